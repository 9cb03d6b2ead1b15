import PyProof.Rows.All
import Wide.All
import OpenK.AllK
import Wide.FinOn
import KE.KStateDown
import HandS.ForMost
import HandS.ForExc
import HandS.Flow
import HandS.Wide
import HandS.HeadHook2
import HandS.TupAny
import HandS.TupMul
import HandS.Deep
import HandS.Style
import HandS.ExcCtx
import HandS.Defaults
import HandS.SortInts
import HandS.RaiseMore
import HandS.StrMore
import HandS.Conv
import PyProof.ListStr
import HandS.ExcIs
import HandS.ExcOwn
import HandS.FStr
import HandS.Ends
import HandS.HeadEnd
import HandS.Replace
import PyProof.Rows.StrMul
import HandS.IsInst
import HandS.More
import OpenK.KOps
import HandS.Zip
import KE.GoesZip
import KE.GoesMore
import KE.KItemsList
import HandS.ExcValue
import HandS.HotCalls
import HandS.TryOnly
import HandS.HeadHook3
import HandS.RepeatKit
import HandS.SortRule
import HandS.Dict
import HandS.ExcInit
import HandS.ExcField
import HandS.ExcSuper
import KE.KExcSuper
import KE.SortKeyHeap
import HandS.SortKw
import HandS.TupLen
import HandS.Records
import HandS.SortOrd
import KE.SortData
import KE.KDictCopyH
import KE.KDictSum
import KE.KDictDisplayH
import HandS.Codes
import PyProof.ReprBulk
import HandS.Head0
import HandS.Head1
import HandS.Head2
import HandS.Head3
import PySem.Challenge.RW_planeworth_k30_webs_of_meets
set_option Elab.async false
set_option linter.all false
set_option maxRecDepth 100000
set_option maxHeartbeats 0
namespace DL
open L2 PySem PySem.Spec PyProof.Rows
inductive D where
  | non | bl (b : Bool) | int (i : Int) | str (x : Str)
  | tup (l : List D) | lst (l : List D)
  | scr (l : List D)
  | fn (x : Str)
  | obj (c : Str) (fs : List (Str × D))
  | exn (c : Str) (fs : List (Str × D))
  | dct (t : Bool) (ks vs : List D)
structure Xn where
  c : Str
  fs : List (Str × D) := []
abbrev En := List (Option D)
inductive R (α : Type) where
  | ok (a : α) (r : En)
  | ex (x : Xn) (r : En)
  | bad
def R.bind {α β : Type} : R α → (α → En → R β) → R β
  | .ok a r, f => f a r
  | .ex x r, _ => .ex x r
  | .bad, _ => .bad
abbrev ME := En → R D
abbrev MT := En → R Bool
abbrev MA := En → R (List D)
def SqTA (K : PySem.W.Frag) (A : Addr → Prop) (H : Hp) (a : Addr) (xs : List V) : Prop :=
  (Rd H a (.tup xs) ∧ ¬ A a) ∨
    ∃ (o : Obj) (its : Array Value) (n : Nat), K.lookup a = some o ∧ o.cls = .type "tuple" ∧ o.data = .seq its n ∧ its.size ≤ sizeLine ∧ Vals xs its.toList
def SqLA (K : PySem.W.Frag) (A : Addr → Prop) (H : Hp) (a : Addr) (xs : List V) : Prop :=
  (Rd H a (.lst xs) ∧ ¬ A a) ∨
    ∃ (o : Obj) (its : Array Value) (n : Nat), K.lookup a = some o ∧ o.cls = .type "list" ∧ o.dict = none ∧ o.data = .seq its n ∧ its.size ≤ sizeLine ∧ Vals xs its.toList
theorem SqTA.sq {K : PySem.W.Frag} {A : Addr → Prop} {H : Hp} {a : Addr} {xs : List V} (h : SqTA K A H a xs) : SqT K H a xs := h.imp (fun z => z.1) id
theorem SqLA.sq {K : PySem.W.Frag} {A : Addr → Prop} {H : Hp} {a : Addr} {xs : List V} (h : SqLA K A H a xs) : SqL K H a xs := h.imp (fun z => z.1) id
def ExA (oe : Obj) (a : Addr) : HO := .ext fun h => h.get? a = some oe
def keyK : D → Option Key
  | .int i => some (.inl i)
  | .str x => some (.inr x)
  | _ => none
def EntT (x : List Int × Addr × Value) : DictEntry := ⟨reduceHash (Builtin.Tuple.tupleHashOf (x.1.map hashInt)), .ref x.2.1, x.2.2⟩
def DTo (a : Addr) (kvs : List (List Int × Addr × V)) : HO := .ext fun h => (a == sysModules) = false ∧ kvs.length ≤ sizeLine ∧ ∃ xs : List (List Int × Addr × Value),
  Paired (fun (p : List Int × Addr × V) (x : List Int × Addr × Value) => p.1 = x.1 ∧ p.2.1 = x.2.1 ∧ RelV p.2.2 x.2.2) kvs xs ∧
  ∃ o es ep, h.get? a = some o ∧ o.ExactDict ∧ o.data = .dict es ep ∧ es.toList = xs.map EntT ∧ (xs.map (·.1)).Nodup
def KyR (K : PySem.W.Frag) (A : Addr → Prop) (H : Hp) (kvs : List (List Int × Addr × V)) (ks : List D) : Prop := (∀ p ∈ kvs, SqTA K A H p.2.1 (p.1.map V.int)) ∧ ks = kvs.map fun p => D.tup (p.1.map D.int)
mutual
inductive Rp (K : PySem.W.Frag) (A : Addr → Prop) (H : Hp) : V → D → Prop where
  | non : Rp K A H .non .non
  | bl (b : Bool) : Rp K A H (.bl b) (.bl b)
  | int (i : Int) : Rp K A H (.int i) (.int i)
  | str (x : Str) : Rp K A H (.str x) (.str x)
  | tup {a : Addr} {xs : List V} {ds : List D} : SqTA K A H a xs → RpA K A H xs ds → Rp K A H (.ref a) (.tup ds)
  | lst {a : Addr} {xs : List V} {ds : List D} : H a = some (.lst xs) → ¬ A a → RpA K A H xs ds → Rp K A H (.ref a) (.lst ds)
  | scr {a : Addr} {xs : List V} {ds : List D} : SqLA K A H a xs → RpA K A H xs ds → Rp K A H (.ref a) (.scr ds)
  | fn (x : Str) : Rp K A H (.ref (He.ga K x)) (.fn x)
  | obj {a dx : Addr} {c : Str} {fs : List (Str × V)} {ds : List (Str × D)} : H a = some (.ins (He.ga K c) dx fs) → ¬ A a → RpF K A H fs ds → Rp K A H (.ref a) (.obj c ds)
  | exn {a : Addr} {c : Str} {oe : Obj} : Rd H a (ExA oe a) → ¬ A a → Zc (.ref (He.ga K c)) none oe → (∃ vs, oe.data = .fields vs) → Rp K A H (.ref a) (.exn c [])
  | dK {a : Addr} {kvs : List (Key × V)} {ks vs : List D} : Rd H a (.dK kvs) → ¬ A a → ks.map keyK = kvs.map (fun p => some p.1) → RpA K A H (kvs.map (·.2)) vs → Rp K A H (.ref a) (.dct false ks vs)
  | dT {a : Addr} {kvs : List (List Int × Addr × V)} {ks vs : List D} : Rd H a (DTo a kvs) → ¬ A a → KyR K A H kvs ks → RpA K A H (kvs.map (·.2.2)) vs → Rp K A H (.ref a) (.dct true ks vs)
inductive RpA (K : PySem.W.Frag) (A : Addr → Prop) (H : Hp) : List V → List D → Prop where
  | nil : RpA K A H [] []
  | cons {v : V} {vs : List V} {d : D} {ds : List D} : Rp K A H v d → RpA K A H vs ds → RpA K A H (v :: vs) (d :: ds)
inductive RpF (K : PySem.W.Frag) (A : Addr → Prop) (H : Hp) : List (Str × V) → List (Str × D) → Prop where
  | nil : RpF K A H [] []
  | cons {f : Str} {v : V} {vs : List (Str × V)} {d : D} {ds : List (Str × D)} : Rp K A H v d → RpF K A H vs ds → RpF K A H ((f, v) :: vs) ((f, d) :: ds)
end
section
variable {K : PySem.W.Frag} {A A' : Addr → Prop} {H H' : Hp}
def Tr (A A' : Addr → Prop) (H H' : Hp) : Prop := ∀ a o, H a = some o → ¬ A a → H' a = some o ∧ ¬ A' a
theorem Tr.rd (t : Tr A A' H H') {a : Addr} {u : HO} (h : Rd H a u) (n : ¬ A a) : Rd H' a u ∧ ¬ A' a := by
  rcases h with h | ⟨o, h⟩
  · exact ⟨.inl (t a _ h n).1, (t a _ h n).2⟩
  · exact ⟨.inr ⟨o, (t a _ h n).1⟩, (t a _ h n).2⟩
theorem SqTA.tr (t : Tr A A' H H') {a : Addr} {xs : List V} (h : SqTA K A H a xs) : SqTA K A' H' a xs := h.imp (fun z => t.rd z.1 z.2) id
theorem SqLA.tr (t : Tr A A' H H') {a : Addr} {xs : List V} (h : SqLA K A H a xs) : SqLA K A' H' a xs := h.imp (fun z => t.rd z.1 z.2) id
theorem KyR.tr (t : Tr A A' H H') {kvs : List (List Int × Addr × V)} {ks : List D} (h : KyR K A H kvs ks) : KyR K A' H' kvs ks := ⟨fun p hp => (h.1 p hp).tr t, h.2⟩
mutual
theorem Rp.tr (t : Tr A A' H H') : ∀ {v : V} {d : D}, Rp K A H v d → Rp K A' H' v d
  | _, _, .non => .non
  | _, _, .bl b => .bl b
  | _, _, .int i => .int i
  | _, _, .str x => .str x
  | _, _, .tup h q => .tup (h.tr t) (RpA.tr t q)
  | _, _, .lst h n q => .lst (t _ _ h n).1 (t _ _ h n).2 (RpA.tr t q)
  | _, _, .scr h q => .scr (h.tr t) (RpA.tr t q)
  | _, _, .fn x => .fn x
  | _, _, .obj h n q => .obj (t _ _ h n).1 (t _ _ h n).2 (RpF.tr t q)
  | _, _, .exn h n z f => .exn (t.rd h n).1 (t.rd h n).2 z f
  | _, _, .dK h n e q => .dK (t.rd h n).1 (t.rd h n).2 e (RpA.tr t q)
  | _, _, .dT h n e q => .dT (t.rd h n).1 (t.rd h n).2 (e.tr t) (RpA.tr t q)
theorem RpA.tr (t : Tr A A' H H') : ∀ {v : List V} {d : List D}, RpA K A H v d → RpA K A' H' v d
  | _, _, .nil => .nil
  | _, _, .cons h q => .cons (Rp.tr t h) (RpA.tr t q)
theorem RpF.tr (t : Tr A A' H H') : ∀ {v : List (Str × V)} {d : List (Str × D)}, RpF K A H v d → RpF K A' H' v d
  | _, _, .nil => .nil
  | _, _, .cons h q => .cons (Rp.tr t h) (RpF.tr t q)
end
theorem RpA.length : ∀ {vs : List V} {ds : List D}, RpA K A H vs ds → vs.length = ds.length
  | _, _, .nil => rfl
  | _, _, .cons _ q => by rw [List.length_cons, List.length_cons, RpA.length q]
theorem RpA.get : ∀ {vs : List V} {ds : List D} {i : Nat} {d : D}, RpA K A H vs ds → ds[i]? = some d → ∃ v, vs[i]? = some v ∧ Rp K A H v d
  | _, _, _, _, .nil, e => by simp at e
  | _, _, 0, _, .cons h _, e => by simp at e; subst e; exact ⟨_, rfl, h⟩
  | _, _, i + 1, _, .cons _ q, e => by
    obtain ⟨v, h1, h2⟩ := RpA.get (i := i) q (by simpa using e)
    exact ⟨v, by simpa using h1, h2⟩
theorem RpA.app : ∀ {vs ws : List V} {ds es : List D}, RpA K A H vs ds → RpA K A H ws es → RpA K A H (vs ++ ws) (ds ++ es)
  | _, _, _, _, .nil, q => q
  | _, _, _, _, .cons h t, q => .cons h (RpA.app t q)
theorem RpA.take : ∀ {vs : List V} {ds : List D} (n : Nat), RpA K A H vs ds → RpA K A H (vs.take n) (ds.take n)
  | _, _, 0, _ => .nil
  | _, _, _ + 1, .nil => .nil
  | _, _, n + 1, .cons h t => .cons h (RpA.take n t)
theorem RpA.drop : ∀ {vs : List V} {ds : List D} (n : Nat), RpA K A H vs ds → RpA K A H (vs.drop n) (ds.drop n)
  | _, _, 0, h => h
  | _, _, _ + 1, .nil => .nil
  | _, _, n + 1, .cons _ t => RpA.drop n t
theorem RpA.set : ∀ {vs : List V} {ds : List D} {v : V} {d : D} (n : Nat), RpA K A H vs ds → Rp K A H v d → RpA K A H (vs.set n v) (ds.set n d)
  | _, _, _, _, _, .nil, _ => .nil
  | _, _, _, _, 0, .cons _ t, q => .cons q t
  | _, _, _, _, n + 1, .cons h t, q => .cons h (RpA.set n t q)
theorem RpA.rev : ∀ {vs : List V} {ds : List D}, RpA K A H vs ds → RpA K A H vs.reverse ds.reverse
  | _, _, .nil => .nil
  | _, _, .cons h t => by
    rw [List.reverse_cons, List.reverse_cons]
    exact (RpA.rev t).app (.cons h .nil)
theorem RpA.dropLast {vs : List V} {ds : List D} (h : RpA K A H vs ds) : RpA K A H vs.dropLast ds.dropLast := by
  rw [List.dropLast_eq_take, List.dropLast_eq_take, h.length]
  exact h.take _
theorem RpA.ints : ∀ {vs : List V} {ns : List Int}, RpA K A H vs (ns.map D.int) → vs = ns.map V.int
  | vs, [], h => by cases h; rfl
  | vs, n :: ns, h => by
    rw [List.map_cons] at h
    cases h with
    | cons h t =>
      cases h
      rw [RpA.ints t, List.map_cons]
theorem RpA.of_ints : ∀ (ns : List Int), RpA K A H (ns.map V.int) (ns.map D.int)
  | [] => .nil
  | n :: ns => .cons (.int n) (RpA.of_ints ns)
theorem RpA.of_strs : ∀ (ns : List Str), RpA K A H (ns.map V.str) (ns.map D.str)
  | [] => .nil
  | n :: ns => .cons (.str n) (RpA.of_strs ns)
theorem RpA.bls : ∀ {vs : List V} {ns : List Bool}, RpA K A H vs (ns.map D.bl) → vs = ns.map V.bl
  | vs, [], h => by cases h; rfl
  | vs, n :: ns, h => by
    rw [List.map_cons] at h
    cases h with
    | cons h t =>
      cases h
      rw [RpA.bls t, List.map_cons]
end
inductive Own (K : PySem.W.Frag) (A : Addr → Prop) (H : Hp) (p : Addr) : D → Prop where
  | lst {vs : List V} {ds : List D} : H p = some (.lst vs) → RpA K A H vs ds → Own K A H p (.lst ds)
  | obj {dx : Addr} {c : Str} {fs : List (Str × V)} {ds : List (Str × D)} : H p = some (.ins (He.ga K c) dx fs) → RpF K A H fs ds → Own K A H p (.obj c ds)
  | dK {kvs : List (Key × V)} {ks vs : List D} : H p = some (.dK kvs) → ks.map keyK = kvs.map (fun p => some p.1) → RpA K A H (kvs.map (·.2)) vs → Own K A H p (.dct false ks vs)
  | dT {kvs : List (List Int × Addr × V)} {ks vs : List D} : H p = some (DTo p kvs) → KyR K A H kvs ks → RpA K A H (kvs.map (·.2.2)) vs → Own K A H p (.dct true ks vs)
theorem Own.there {K : PySem.W.Frag} {A : Addr → Prop} {H : Hp} {p : Addr} {d : D} (h : Own K A H p d) : ∃ o, H p = some o := by
  cases h with
  | lst e _ => exact ⟨_, e⟩
  | obj e _ => exact ⟨_, e⟩
  | dK e _ _ => exact ⟨_, e⟩
  | dT e _ _ => exact ⟨_, e⟩
theorem Own.there' {K : PySem.W.Frag} {A : Addr → Prop} {H : Hp} {p : Addr} {d : D} (h : Own K A H p d) : ∃ o, H p = some o ∧ ∀ xs, o ≠ .tup xs := by
  cases h with
  | lst e _ => exact ⟨_, e, fun _ z => nomatch z⟩
  | obj e _ => exact ⟨_, e, fun _ z => nomatch z⟩
  | dK e _ _ => exact ⟨_, e, fun _ z => nomatch z⟩
  | dT e _ _ => exact ⟨_, e, fun _ z => nomatch z⟩
theorem Own.tr {K : PySem.W.Frag} {A A' : Addr → Prop} {H H' : Hp} {p : Addr} {d : D} (h : Own K A H p d) (t : Tr A A' H H') (hp : ∀ o, H p = some o → H' p = some o) : Own K A' H' p d := by
  cases h with
  | lst e q => exact .lst (hp _ e) (q.tr t)
  | obj e q => exact .obj (hp _ e) (q.tr t)
  | dK e k q => exact .dK (hp _ e) k (q.tr t)
  | dT e k q => exact .dT (hp _ e) (k.tr t) (q.tr t)
theorem Own.freeze {K : PySem.W.Frag} {A A' : Addr → Prop} {H : Hp} {p : Addr} {d : D} (h : Own K A H p d) (s : ∀ a, A' a → A a) (n : ¬ A' p) : Rp K A' H (.ref p) d := by
  have t : Tr A A' H H := fun a o e q => ⟨e, fun z => q (s a z)⟩
  cases h with
  | lst e q => exact .lst e n (q.tr t)
  | obj e q => exact .obj e n (q.tr t)
  | dK e k q => exact .dK (.inl e) n k (q.tr t)
  | dT e k q => exact .dT (.inl e) n (k.tr t) (q.tr t)
structure Gd where
  A0 : Addr → Prop
  H0 : Hp
  io : Option Addr
  px : Option (Nat × Addr × Str)
def NT (o : HO) : Prop := ∀ xs, o ≠ .tup xs
structure RelS (K : PySem.W.Frag) (G : Gd) (O : List Nat) (A : Addr → Prop) (ms : Nat → Option Addr) (σ : L2.St) (H : Hp) (ρ : En) : Prop where
  sub : ∀ a, G.A0 a → A a
  trk0 : ∀ a, G.A0 a → ∃ o, G.H0 a = some o
  trk : ∀ a, A a → ∃ o, H a = some o ∧ NT o
  keep : ∀ a o, G.H0 a = some o → G.io ≠ some a → H a = some o
  len : σ.length = ρ.length
  fz : ∀ i d, ρ[i]? = some (some d) → i ∉ O → ∃ v, σ[i]? = some (some v) ∧ Rp K A H v d
  ow : ∀ i d, ρ[i]? = some (some d) → i ∈ O → ∃ p, ms i = some p ∧ σ[i]? = some (some (.ref p)) ∧ Own K A H p d
  inA : ∀ i p, i ∈ O → ms i = some p → A p
  ok : ∀ i p, i ∈ O → ms i = some p → (i = 0 ∧ G.io = some p) ∨ ((i ≠ 0 ∨ G.io = none) ∧ G.H0 p = none)
  dist : ∀ i j p, i ∈ O → j ∈ O → ms i = some p → ms j = some p → i = j
  px : ∀ i a c, G.px = some (i, a, c) → i ∈ O ∧ σ[i]? = some (some (.ref a))
  io : ∀ p, G.io = some p → 0 ∈ O ∧ G.A0 p ∧ ms 0 = some p ∧ ∃ d, ρ[0]? = some (some d)
def Kp (O : List Nat) (ms : Nat → Option Addr) (H H' : Hp) : Prop := ∀ a o, H a = some o → (∀ i ∈ O, ms i ≠ some a) → H' a = some o
section
variable {O : List Nat} {ms : Nat → Option Addr}
theorem Kp.refl {H : Hp} : Kp O ms H H := fun _ _ e _ => e
theorem Kp.trans {H H1 H2 : Hp} (a : Kp O ms H H1) (b : Kp O ms H1 H2) : Kp O ms H H2 := fun x o e n => b x o (a x o e n) n
theorem Kp.same {H H' : Hp} (k : Same H H') : Kp O ms H H' := fun a o e _ => k a o e
theorem Tr.same {A : Addr → Prop} {H H' : Hp} (k : Same H H') : Tr A A H H' := fun a o e n => ⟨k a o e, n⟩
theorem RelS.kt {K : PySem.W.Frag} {G : Gd} {A : Addr → Prop} {σ : L2.St} {H0 H H' : Hp} {ρ : En} (R : RelS K G O A ms σ H0 ρ) (k : Kp O ms H H') : Tr A A H H' := fun a o e n => ⟨k a o e fun i m z => n (R.inA i a m z), n⟩
theorem RelS.same {K : PySem.W.Frag} {G : Gd} {A : Addr → Prop} {σ : L2.St} {H H' : Hp} {ρ : En} (h : RelS K G O A ms σ H ρ) (k : Same H H') : RelS K G O A ms σ H' ρ where
  sub := h.sub
  trk0 := h.trk0
  trk := fun a q => let ⟨o, e, n⟩ := h.trk a q; ⟨o, k _ _ e, n⟩
  keep := fun a o e n => k _ _ (h.keep a o e n)
  len := h.len
  fz := fun i d e n => let ⟨v, e1, q⟩ := h.fz i d e n; ⟨v, e1, q.tr (Tr.same k)⟩
  ow := fun i d e n => let ⟨p, e0, e1, q⟩ := h.ow i d e n; ⟨p, e0, e1, q.tr (Tr.same k) fun o z => k _ _ z⟩
  inA := h.inA
  ok := h.ok
  dist := h.dist
  px := h.px
  io := h.io
end
def XRel (K : PySem.W.Frag) (A : Addr → Prop) (H : Hp) (x : Xn) (dx : Option Addr) : Prop :=
  (x.fs = [] ∧ dx = none) ∨ (x.fs ≠ [] ∧ ∃ d fs, dx = some d ∧ H d = some (.xd fs) ∧ RpF K A H fs x.fs)
section
variable (K : PySem.W.Frag) (G : Gd) (O : List Nat) (W : WX) (A : Addr → Prop) (ms : Nat → Option Addr) (σ : L2.St)
def RPost {α β : Type} (H : Hp) (rel : Hp → β → α → Prop) (Q : β → Hp → Prop) : R α → Prop
  | .ok d ρ' => ∀ v H', RelS K G O A ms σ H' ρ' → Kp O ms H H' → rel H' v d → Q v H'
  | .ex x ρ' => ∀ dx H', RelS K G O A ms σ H' ρ' → Kp O ms H H' → XRel K A H' x dx → W (.ref (He.ga K x.c)) dx σ H'
  | .bad => False
end
section
variable {K : PySem.W.Frag} {G : Gd} {O : List Nat} {W : WX} {A : Addr → Prop} {ms : Nat → Option Addr} {σ : L2.St} {H H1 : Hp}
theorem RPost.from {α β : Type} {rel : Hp → β → α → Prop} {Q : β → Hp → Prop} {r : R α} (k : Kp O ms H H1) (h : RPost K G O W A ms σ H rel Q r) : RPost K G O W A ms σ H1 rel Q r := by
  cases r with
  | ok d ρ => exact fun v H' R k' q => h v H' R (k.trans k') q
  | ex x ρ => exact fun dx H' R k' q => h dx H' R (k.trans k') q
  | bad => exact h
theorem RPost.mono {α β : Type} {rel : Hp → β → α → Prop} {Q Q' : β → Hp → Prop} {r : R α} (h : RPost K G O W A ms σ H rel Q r) (w : ∀ v H', Q v H' → Q' v H') : RPost K G O W A ms σ H rel Q' r := by
  cases r with
  | ok d ρ => exact fun v H' R k' q => w _ _ (h v H' R k' q)
  | ex x ρ => exact h
  | bad => exact h
theorem RPost.bind {α β γ δ : Type} {rel : Hp → β → α → Prop} {rel' : Hp → δ → γ → Prop} {Q : δ → Hp → Prop} {r : R α} {f : α → En → R γ} (h : RPost K G O W A ms σ H rel' Q (r.bind f)) :
    RPost K G O W A ms σ H rel (fun v H1 => ∃ d ρ1, RelS K G O A ms σ H1 ρ1 ∧ Kp O ms H H1 ∧ rel H1 v d ∧ RPost K G O W A ms σ H1 rel' Q (f d ρ1)) r := by
  cases r with
  | ok d ρ => exact fun v H' R k' q => ⟨d, ρ, R, k', q, RPost.from k' h⟩
  | ex x ρ => exact h
  | bad => exact h
end
def tE (K : PySem.W.Frag) (G : Gd) (O : List Nat) (W : WX) (m : ME) : TE := fun σ H Q => ∃ A ms ρ, RelS K G O A ms σ H ρ ∧ RPost K G O W A ms σ H (Rp K A) Q (m ρ)
def tT (K : PySem.W.Frag) (G : Gd) (O : List Nat) (W : WX) (m : MT) : TT := fun σ H Q => ∃ A ms ρ, RelS K G O A ms σ H ρ ∧ RPost K G O W A ms σ H (fun _ => Eq) Q (m ρ)
def tA (K : PySem.W.Frag) (G : Gd) (O : List Nat) (W : WX) (m : MA) : TA := fun σ H Q => ∃ A ms ρ, RelS K G O A ms σ H ρ ∧ RPost K G O W A ms σ H (RpA K A) Q (m ρ)
def DE (X : Cx) (G : Gd) (O : List Nat) (W : WX) (e : Expr) (m : ME) : Prop := PE X e (tE X.K G O W m)
def DT (X : Cx) (G : Gd) (O : List Nat) (W : WX) (e : Expr) (m : MT) : Prop := PT X e (tT X.K G O W m)
def DA (X : Cx) (G : Gd) (O : List Nat) (W : WX) (es : List Expr) (m : MA) : Prop := PA X es (tA X.K G O W m)
theorem pe_imp {X : Cx} {e : Expr} {t t' : TE} (h : PE X e t) (w : ∀ σ H Q, t' σ H Q → t σ H Q) : PE X e t' := ⟨fun pins s σ H Q I q => h.run pins s σ H Q I (w σ H Q q)⟩
theorem pt_imp {X : Cx} {e : Expr} {t t' : TT} (h : PT X e t) (w : ∀ σ H Q, t' σ H Q → t σ H Q) : PT X e t' := ⟨fun pins s σ H Q I q => h.run pins s σ H Q I (w σ H Q q)⟩
theorem pw_imp {X : Cx} {e : Expr} {t t' : TT} (h : PW X e t) (w : ∀ σ H Q, t' σ H Q → t σ H Q) : PW X e t' := ⟨fun wh pins s σ H Q I q => h.run wh pins s σ H Q I (w σ H Q q)⟩
theorem pa_imp {X : Cx} {es : List Expr} {t t' : TA} (h : PA X es t) (w : ∀ σ H Q, t' σ H Q → t σ H Q) : PA X es t' := ⟨fun pos pins s σ H Q I q => h.run pos pins s σ H Q I (w σ H Q q)⟩
theorem ps_imp {X : Cx} {st : Stmt} {t t' : TS} (h : PS X st t) (w : ∀ D σ H, t' D σ H → t D σ H) : PS X st t' := ⟨fun pins s σ H D I q => h.run pins s σ H D I (w D σ H q)⟩
theorem pss_imp {X : Cx} {st : List Stmt} {t t' : TS} (h : PSs X st t) (w : ∀ D σ H, t' D σ H → t D σ H) : PSs X st t' := ⟨fun pins s σ H D I q => h.run pins s σ H D I (w D σ H q)⟩
end DL
namespace DL
open L2 PySem PySem.Spec PyProof.Rows
def ret {α : Type} (d : Option α) (ρ : En) : R α := match d with
  | some d => .ok d ρ
  | none => .bad
def mVar (i : Nat) : ME := fun ρ => match ρ[i]? with
  | some (some d) => .ok d ρ
  | _ => .bad
def mK (d : D) : ME := fun ρ => .ok d ρ
def m1 (g : D → Option D) (a : ME) : ME := fun ρ => (a ρ).bind fun x ρ1 => ret (g x) ρ1
def m2 (g : D → D → Option D) (a b : ME) : ME := fun ρ => (a ρ).bind fun x ρ1 => (b ρ1).bind fun y ρ2 => ret (g x y) ρ2
def mIf (c : MT) (a b : ME) : ME := fun ρ => (c ρ).bind fun k ρ1 => if k = true then a ρ1 else b ρ1
def tru : D → Option Bool
  | .non => some false
  | .bl b => some b
  | .int i => some (i != 0)
  | .str y => if y.length ≤ sizeLine then some ((y.length : Int) != 0) else none
  | .tup l => some (!l.isEmpty)
  | .lst l => some (!l.isEmpty)
  | .scr l => some (!l.isEmpty)
  | _ => none
def mTru (a : ME) : MT := fun ρ => (a ρ).bind fun x ρ1 => ret (tru x) ρ1
def mAndT (a b : MT) : MT := fun ρ => (a ρ).bind fun k ρ1 => if k = true then b ρ1 else .ok false ρ1
def mOrT (a b : MT) : MT := fun ρ => (a ρ).bind fun k ρ1 => if k = true then .ok true ρ1 else b ρ1
def mNotT (a : MT) : MT := fun ρ => (a ρ).bind fun k ρ1 => .ok (!k) ρ1
def mAnd (a b : ME) : ME := fun ρ => (a ρ).bind fun x ρ1 => (ret (tru x) ρ1).bind fun k ρ2 => if k = true then b ρ2 else .ok x ρ2
def mOr (a b : ME) : ME := fun ρ => (a ρ).bind fun x ρ1 => (ret (tru x) ρ1).bind fun k ρ2 => if k = true then .ok x ρ2 else b ρ2
def mNil : MA := fun ρ => .ok [] ρ
def mCons (a : ME) (b : MA) : MA := fun ρ => (a ρ).bind fun x ρ1 => (b ρ1).bind fun xs ρ2 => .ok (x :: xs) ρ2
def mN (g : List D → Option D) (a : MA) : ME := fun ρ => (a ρ).bind fun xs ρ1 => ret (g xs) ρ1
def gTup (xs : List D) : Option D := if xs.length ≤ sizeLine then some (.tup xs) else none
def gLst (xs : List D) : Option D := if xs.length ≤ sizeLine then some (.lst xs) else none
def mChain (g g' : D → D → Option D) (a b c : ME) : ME := fun ρ => (a ρ).bind fun x ρ1 => (b ρ1).bind fun y ρ2 => (ret (g x y) ρ2).bind fun k ρ3 => match k with
  | .bl true => (c ρ3).bind fun z ρ4 => ret (g' y z) ρ4
  | .bl false => .ok (.bl false) ρ3
  | _ => .bad
def gAdd : D → D → Option D
  | .int i, .int j => some (.int (i + j))
  | .str x, .str y => if x.length + y.length ≤ sizeLine then some (.str (x ++ y)) else none
  | .tup xs, .tup ys => if xs.length + ys.length ≤ sizeLine then some (.tup (xs ++ ys)) else none
  | .lst xs, .lst ys => if xs.length + ys.length ≤ sizeLine then some (.lst (xs ++ ys)) else none
  | _, _ => none
def gSub : D → D → Option D
  | .int i, .int j => some (.int (i - j))
  | _, _ => none
def okMul (i j : Int) : Bool := decide (i.natAbs.log2 + j.natAbs.log2 < 100000000)
def gMul : D → D → Option D
  | .int i, .int j => if okMul i j = true then some (.int (i * j)) else none
  | .lst xs, .int k => if -(2 ^ 63) ≤ k ∧ k < 2 ^ 63 ∧ xs.length * k.toNat ≤ sizeLine then some (.lst (List.replicate k.toNat xs).flatten) else none
  | _, _ => none
def gDiv : D → D → Option D
  | .int i, .int j => if j ≠ 0 ∧ j.natAbs.log2 < 9000 then some (.int (i.fdiv j)) else none
  | _, _ => none
instance {i j : Int} : Decidable (CPow i j) := by unfold CPow; infer_instance
def gPow : D → D → Option D
  | .int i, .int j => if CPow i j then some (.int (i ^ j.toNat)) else none
  | _, _ => none
def gMod : D → D → Option D
  | .int i, .int j => if j ≠ 0 then some (.int (i.fmod j)) else none
  | _, _ => none
def gNeg : D → Option D
  | .int i => some (.int (-i))
  | _ => none
def gLt : D → D → Option D
  | .int i, .int j => some (.bl (decide (i < j)))
  | .str i, .str j => some (.bl (decide (i.cps.toList < j.cps.toList)))
  | _, _ => none
def gGt : D → D → Option D
  | .int i, .int j => some (.bl (decide (j < i)))
  | .str i, .str j => some (.bl (decide (j.cps.toList < i.cps.toList)))
  | _, _ => none
def gLe : D → D → Option D
  | .int i, .int j => some (.bl (decide (i ≤ j)))
  | .str i, .str j => some (.bl (!decide (j.cps.toList < i.cps.toList)))
  | _, _ => none
def gGe : D → D → Option D
  | .int i, .int j => some (.bl (decide (j ≤ i)))
  | .str i, .str j => some (.bl (!decide (i.cps.toList < j.cps.toList)))
  | _, _ => none
mutual
def D.py : D → Option PyData
  | .non => some .none
  | .bl b => some (.bool b)
  | .int i => some (.int i)
  | .str x => some (.str x)
  | .tup l => (pyAll l).map .tuple
  | .lst l => (pyAll l).map .list
  | _ => none
def pyAll : List D → Option (List PyData)
  | [] => some []
  | d :: ds => (D.py d).bind fun x => (pyAll ds).map fun xs => x :: xs
end
def eqD (a b : D) : Option Bool := match a, b with
  | .int i, .int j => some (decide (i = j))
  | .str i, .str j => some (decide (i = j))
  | .bl i, .bl j => some (decide (i = j))
  | .non, .non => some true
  | a, b => match a.py, b.py with
    | some x, some y => if SeqAt.shaped x = true ∧ SeqAt.shaped y = true then some (PyData.eqv x y) else none
    | _, _ => none
def gEq (a b : D) : Option D := (eqD a b).map D.bl
def gNe (a b : D) : Option D := (eqD a b).map fun k => D.bl (!k)
def isNon : D → Bool
  | .non => true
  | _ => false
def gIs : D → D → Option D
  | a, .non => some (.bl (isNon a))
  | .bl a, .bl b => some (.bl (decide (a = b)))
  | _, _ => none
def gIsNot : D → D → Option D
  | a, .non => some (.bl (!isNon a))
  | .bl a, .bl b => some (.bl (!decide (a = b)))
  | _, _ => none
def inStr (x y : Str) : Bool := !(Builtin.Str.occurrences y x 0 y.length 1).isEmpty
def inD (a : D) (l : D) : Option Bool := match a, l with
  | .str x, .str y => some (inStr x y)
  | a, .lst ds => match a.py, pyAll ds with
    | some x, some ys => if SeqAt.shaped x = true ∧ SeqAt.shaped (.list ys) = true then some (ys.any fun z => PyData.eqv z x) else none
    | _, _ => none
  | a, .tup ds => match a.py, pyAll ds with
    | some x, some ys => if SeqAt.shaped x = true ∧ SeqAt.shaped (.list ys) = true then some (ys.any fun z => PyData.eqv z x) else none
    | _, _ => none
  | _, _ => none
def gIn (a l : D) : Option D := (inD a l).map D.bl
def gNotIn (a l : D) : Option D := (inD a l).map fun k => D.bl (!k)
def Trk (A : Addr → Prop) (H : Hp) : Prop := ∀ p, A p → ∃ o, H p = some o ∧ NT o
theorem Trk.no {A : Addr → Prop} {H : Hp} (t : Trk A H) {p : Addr} (h : H p = none) : ¬ A p := fun q => by
  obtain ⟨o, e, _⟩ := t p q
  rw [h] at e
  cases e
theorem same_upd {H : Hp} {p : Addr} {o : HO} (h : H p = none) : Same H (upd H p o) := fun b x e => by
  rw [upd_ne (ne_of_none e h)]
  exact e
inductive RpB (K : PySem.W.Frag) (A : Addr → Prop) (H : Hp) : V → D → Prop where
  | of {v : V} {d : D} : Rp K A H v d → RpB K A H v d
  | own {p : Addr} {ws : List V} {cs : List D} : H p = some (.lst ws) → RpA K A H ws cs → RpB K A H (.ref p) (.lst cs)
  | ownK {p : Addr} {kvs : List (Key × V)} {ks vs : List D} : H p = some (.dK kvs) → ks.map keyK = kvs.map (fun p => some p.1) → RpA K A H (kvs.map (·.2)) vs → RpB K A H (.ref p) (.dct false ks vs)
  | ownT {p : Addr} {kvs : List (List Int × Addr × V)} {ks vs : List D} : H p = some (DTo p kvs) → KyR K A H kvs ks → RpA K A H (kvs.map (·.2.2)) vs → RpB K A H (.ref p) (.dct true ks vs)
section
variable {K : PySem.W.Frag} {A : Addr → Prop} {H : Hp} {v : V}
theorem RpB.non (h : RpB K A H v .non) : v = .non := by cases h with | of h => cases h; rfl
theorem RpB.bl {b : Bool} (h : RpB K A H v (.bl b)) : v = .bl b := by cases h with | of h => cases h; rfl
theorem RpB.int {i : Int} (h : RpB K A H v (.int i)) : v = .int i := by cases h with | of h => cases h; rfl
theorem RpB.str {x : Str} (h : RpB K A H v (.str x)) : v = .str x := by cases h with | of h => cases h; rfl
theorem RpB.tup {ds : List D} (h : RpB K A H v (.tup ds)) : ∃ a xs, v = .ref a ∧ SqTA K A H a xs ∧ RpA K A H xs ds := by cases h with | of h => cases h with | tup h q => exact ⟨_, _, rfl, h, q⟩
theorem RpB.lst {ds : List D} (h : RpB K A H v (.lst ds)) : ∃ a xs, v = .ref a ∧ H a = some (.lst xs) ∧ RpA K A H xs ds := by
  cases h with
  | of h => cases h with | lst h n q => exact ⟨_, _, rfl, h, q⟩
  | own h q => exact ⟨_, _, rfl, h, q⟩
theorem RpB.scr {ds : List D} (h : RpB K A H v (.scr ds)) : ∃ a xs, v = .ref a ∧ SqLA K A H a xs ∧ RpA K A H xs ds := by cases h with | of h => cases h with | scr h q => exact ⟨_, _, rfl, h, q⟩
end
def rD1 (K : PySem.W.Frag) (g : D → Option D) : V → Hp → VK → Prop := fun x H Q => ∃ A a d, Trk A H ∧ RpB K A H x a ∧ g a = some d ∧ ∀ v H', Same H H' → Rp K A H' v d → Q v H'
def rD2 (K : PySem.W.Frag) (g : D → D → Option D) : R2 := fun x y H Q => ∃ A a b d, Trk A H ∧ RpB K A H x a ∧ RpB K A H y b ∧ g a b = some d ∧ ∀ v H', Same H H' → Rp K A H' v d → Q v H'
def Fr (K : PySem.W.Frag) (A : Addr → Prop) (H H' : Hp) (v : V) (d : D) : Prop := ∀ l, d = .lst l → ∃ p, v = .ref p ∧ H p = none ∧ Own K (fun a => A a ∨ a = p) H' p (.lst l)
def rF2 (K : PySem.W.Frag) (g : D → D → Option D) : R2 := fun x y H Q => ∃ A a b d, Trk A H ∧ RpB K A H x a ∧ RpB K A H y b ∧ g a b = some d ∧ ∀ v H', Same H H' → Rp K A H' v d → Fr K A H H' v d → Q v H'
def rDN (K : PySem.W.Frag) (g : List D → Option D) : List V → Hp → VK → Prop := fun xs H Q => ∃ A ds d, Trk A H ∧ (RpA K A H xs ds ∨ ∃ v c, xs = [v] ∧ ds = [c] ∧ RpB K A H v c) ∧ g ds = some d ∧ ∀ v H', Same H H' → Rp K A H' v d → Q v H'
def rFN (K : PySem.W.Frag) (g : List D → Option D) : List V → Hp → VK → Prop := fun xs H Q => ∃ A ds d, Trk A H ∧ (RpA K A H xs ds ∨ ∃ v c, xs = [v] ∧ ds = [c] ∧ RpB K A H v c) ∧ g ds = some d ∧ ∀ v H', Same H H' → Rp K A H' v d → Fr K A H H' v d → Q v H'
section
variable {K : PySem.W.Frag} {A : Addr → Prop} {H : Hp}
theorem new_tup {p : Addr} {xs : List V} {ds : List D} (t : Trk A H) (h : RpA K A H xs ds) (hp : H p = none) : Rp K A (upd H p (.tup xs)) (.ref p) (.tup ds) :=
  .tup (.inl ⟨.inl upd_same, t.no hp⟩) (h.tr (Tr.same (same_upd hp)))
theorem new_lst {p : Addr} {xs : List V} {ds : List D} (t : Trk A H) (h : RpA K A H xs ds) (hp : H p = none) : Rp K A (upd H p (.lst xs)) (.ref p) (.lst ds) :=
  .lst upd_same (t.no hp) (h.tr (Tr.same (same_upd hp)))
theorem RpA.nil_iff {xs : List V} {ds : List D} (h : RpA K A H xs ds) : xs = [] ↔ ds = [] := by
  cases h with
  | nil => simp
  | cons _ _ => simp
end
theorem ite_d {c : Prop} [Decidable c] {x d : D} (h : (if c then some x else none) = some d) : c ∧ x = d := by
  by_cases q : c
  · rw [if_pos q] at h
    exact ⟨q, Option.some.inj h⟩
  · rw [if_neg q] at h
    cases h
section
variable {X : Cx}
theorem new_own' {K : PySem.W.Frag} {A : Addr → Prop} {H : Hp} {p : Addr} {xs : List V} {ds : List D} (t : Trk A H) (h : RpA K A H xs ds) (hp : H p = none) : Own K (fun a => A a ∨ a = p) (upd H p (.lst xs)) p (.lst ds) :=
  .lst upd_same (h.tr fun a u e n => ⟨same_upd hp _ _ e, fun z => z.elim n fun z => by rw [z, hp] at e; cases e⟩)
theorem new_fr {K : PySem.W.Frag} {A : Addr → Prop} {H : Hp} {p : Addr} {xs : List V} {ds : List D} (t : Trk A H) (h : RpA K A H xs ds) (hp : H p = none) : Fr K A H (upd H p (.lst xs)) (.ref p) (.lst ds) := fun l e => by
  cases e
  exact ⟨p, rfl, hp, new_own' t h hp⟩
theorem no_fr {K : PySem.W.Frag} {A : Addr → Prop} {H H' : Hp} {v : V} {d : D} (h : ∀ l, d ≠ .lst l) : Fr K A H H' v d := fun l e => absurd e (h l)
theorem od_addF : OpR X (binaryOp .Add) (rF2 X.K gAdd) := by
  intro pins s σ H x y v u Q I rx ry ⟨A, a, b, d, t, pa, pb, e, q⟩
  cases a with
  | int i =>
    cases b with
    | int j =>
      cases e
      rw [pa.int] at rx
      rw [pb.int] at ry
      exact op_add pins s σ H _ _ v u Q I rx ry ⟨i, j, rfl, rfl, q _ _ (Same.refl _) (.int _) (no_fr fun _ => nofun)⟩
    | _ => cases e
  | str i =>
    cases b with
    | str j =>
      obtain ⟨hz, rfl⟩ := ite_d (x := .str (i ++ j)) e
      rw [pa.str] at rx
      rw [pb.str] at ry
      exact op_add_str pins s σ H _ _ v u Q I rx ry ⟨i, j, rfl, rfl, hz, q _ _ (Same.refl _) (.str _) (no_fr fun _ => nofun)⟩
    | _ => cases e
  | tup xs =>
    cases b with
    | tup ys =>
      obtain ⟨hz, rfl⟩ := ite_d (x := .tup (xs ++ ys)) e
      obtain ⟨a1, x1, rfl, ha, da⟩ := pa.tup
      obtain ⟨a2, x2, rfl, hb, db⟩ := pb.tup
      refine op_catA pins s σ H _ _ v u Q I rx ry ⟨_, _, _, _, rfl, rfl, ha.sq, hb.sq, by rw [da.length, db.length]; exact hz, fun z => ?_, fun _ z => ?_, fun _ _ p hp => ?_⟩
      · rw [da.nil_iff.mp z, List.nil_append] at q
        exact q _ _ (Same.refl _) (.tup hb db) (no_fr fun _ => nofun)
      · rw [db.nil_iff.mp z, List.append_nil] at q
        exact q _ _ (Same.refl _) (.tup ha da) (no_fr fun _ => nofun)
      · exact q _ _ (same_upd hp) (new_tup t (da.app db) hp) (no_fr fun _ => nofun)
    | _ => cases e
  | lst xs =>
    cases b with
    | lst ys =>
      obtain ⟨hz, rfl⟩ := ite_d (x := .lst (xs ++ ys)) e
      obtain ⟨a1, x1, rfl, ha, da⟩ := pa.lst
      obtain ⟨a2, x2, rfl, hb, db⟩ := pb.lst
      refine op_cat pins s σ H _ _ v u Q I rx ry ⟨_, _, _, _, rfl, rfl, ha, hb, by rw [da.length, db.length]; exact hz, fun p hp => ?_⟩
      exact q _ _ (same_upd hp) (new_lst t (da.app db) hp) (new_fr t (da.app db) hp)
    | _ => cases e
  | _ => cases b <;> cases e
theorem OpR.weak {f : Value → Value → Sem Value} {g : D → D → Option D} (h : OpR X f (rF2 X.K g)) : OpR X f (rD2 X.K g) := fun pins s σ H x y v u Q I rx ry ⟨A, a, b, d, t, pa, pb, e, q⟩ => h pins s σ H x y v u Q I rx ry ⟨A, a, b, d, t, pa, pb, e, fun v H' s r _ => q v H' s r⟩
theorem od_add : OpR X (binaryOp .Add) (rD2 X.K gAdd) := OpR.weak od_addF
theorem od_sub : OpR X (binaryOp .Sub) (rD2 X.K gSub) := by
  intro pins s σ H x y v u Q I rx ry ⟨A, a, b, d, t, pa, pb, e, q⟩
  cases a with
  | int i =>
    cases b with
    | int j =>
      cases e
      rw [pa.int] at rx
      rw [pb.int] at ry
      exact op_sub pins s σ H _ _ v u Q I rx ry ⟨i, j, rfl, rfl, q _ _ (Same.refl _) (.int _)⟩
    | _ => cases e
  | _ => cases b <;> cases e
theorem okMul_ok {i j : Int} (h : okMul i j = true) : IntMulOk i j := by
  have b : ∀ x : Int, Builtin.Int.intBits x ≤ x.natAbs.log2 + 1 := fun x => by
    unfold Builtin.Int.intBits
    split <;> omega
  have h1 := b i
  have h2 := b j
  have h3 : i.natAbs.log2 + j.natAbs.log2 < 100000000 := of_decide_eq_true h
  have e : bitsLine = 134217728 := by decide
  unfold IntMulOk
  intro z
  rw [Bool.and_eq_true] at z
  have z2 := z.2
  unfold Builtin.Int.intTooBig at z2
  have z3 := of_decide_eq_true z2
  rw [e] at z3
  omega
theorem RpA.rep {K : PySem.W.Frag} {A : Addr → Prop} {H : Hp} {xs : List V} {ds : List D} (h : RpA K A H xs ds) : ∀ n : Nat, RpA K A H (List.replicate n xs).flatten (List.replicate n ds).flatten
  | 0 => .nil
  | n + 1 => by
    rw [List.replicate_succ, List.replicate_succ, List.flatten_cons, List.flatten_cons]
    exact h.app (RpA.rep h n)
theorem od_mulF : OpR X (binaryOp .Mult) (rF2 X.K gMul) := by
  intro pins s σ H x y v u Q I rx ry ⟨A, a, b, d, t, pa, pb, e, q⟩
  cases a with
  | int i =>
    cases b with
    | int j =>
      obtain ⟨hz, rfl⟩ := ite_d (x := .int (i * j)) e
      rw [pa.int] at rx
      rw [pb.int] at ry
      obtain ⟨t1, rfl⟩ := rx
      obtain ⟨t2, rfl⟩ := ry
      exact mul_int ⟨.int (i * j), H, I.tok _, ⟨_, rfl⟩, q _ _ (Same.refl _) (.int _) (no_fr fun _ => nofun)⟩ (okMul_ok hz)
    | _ => cases e
  | lst xs =>
    cases b with
    | int k =>
      obtain ⟨hz, rfl⟩ := ite_d (x := .lst (List.replicate k.toNat xs).flatten) e
      obtain ⟨a1, x1, rfl, ha, da⟩ := pa.lst
      rw [pb.int] at ry
      refine op_rep pins s σ H _ _ v u Q I rx ry ⟨_, k, _, rfl, rfl, ha, hz.1, hz.2.1, by rw [da.length]; exact hz.2.2, fun p hp => ?_⟩
      exact q _ _ (same_upd hp) (new_lst t (da.rep _) hp) (new_fr t (da.rep _) hp)
    | _ => cases e
  | _ => cases b <;> cases e
theorem od_mul : OpR X (binaryOp .Mult) (rD2 X.K gMul) := OpR.weak od_mulF
theorem od_div : OpR X (binaryOp .FloorDiv) (rD2 X.K gDiv) := by
  intro pins s σ H x y v u Q I rx ry ⟨A, a, b, d, t, pa, pb, e, q⟩
  cases a with
  | int i =>
    cases b with
    | int j =>
      obtain ⟨hz, rfl⟩ := ite_d (x := .int (i.fdiv j)) e
      rw [pa.int] at rx
      rw [pb.int] at ry
      obtain ⟨t1, rfl⟩ := rx
      obtain ⟨t2, rfl⟩ := ry
      exact floordiv_int hz.1 ⟨.int (i.fdiv j), H, I.tok _, ⟨_, rfl⟩, q _ _ (Same.refl _) (.int _)⟩ (.inl (PyProof.noPylong_of_log2 hz.2))
    | _ => cases e
  | _ => cases b <;> cases e
theorem od_mod : OpR X (binaryOp .Mod) (rD2 X.K gMod) := by
  intro pins s σ H x y v u Q I rx ry ⟨A, a, b, d, t, pa, pb, e, q⟩
  cases a with
  | int i =>
    cases b with
    | int j =>
      obtain ⟨hz, rfl⟩ := ite_d (x := .int (i.fmod j)) e
      rw [pa.int] at rx
      rw [pb.int] at ry
      exact op_modN pins s σ H _ _ v u Q I rx ry ⟨i, j, rfl, rfl, hz, q _ _ (Same.refl _) (.int _)⟩
    | _ => cases e
  | _ => cases b <;> cases e
theorem od_pow : OpR X (binaryOp .Pow) (rD2 X.K gPow) := by
  intro pins s σ H x y v u Q I rx ry ⟨A, a, b, d, t, pa, pb, e, q⟩
  cases a with
  | int i =>
    cases b with
    | int j =>
      obtain ⟨hz, rfl⟩ := ite_d (x := .int (i ^ j.toNat)) e
      rw [pa.int] at rx
      rw [pb.int] at ry
      exact op_pow pins s σ H _ _ v u Q I rx ry ⟨i, j, rfl, rfl, hz, q _ _ (Same.refl _) (.int _)⟩
    | _ => cases e
  | _ => cases b <;> cases e
theorem ud_neg : UnR X (unaryOp .USub) (rD1 X.K gNeg) := by
  intro pins s σ H x v Q I rx ⟨A, a, d, t, pa, e, q⟩
  cases a with
  | int i =>
    cases e
    rw [pa.int] at rx
    exact un_neg pins s σ H _ v Q I rx ⟨i, rfl, q _ _ (Same.refl _) (.int _)⟩
  | _ => cases e
theorem od_lt : OpR X (compareOp .Lt) (rD2 X.K gLt) := by
  intro pins s σ H x y v u Q I rx ry ⟨A, a, b, d, t, pa, pb, e, q⟩
  cases a with
  | int i =>
    cases b with
    | int j =>
      cases e
      rw [pa.int] at rx
      rw [pb.int] at ry
      exact op_lt pins s σ H _ _ v u Q I rx ry ⟨i, j, rfl, rfl, q _ _ (Same.refl _) (.bl _)⟩
    | _ => cases e
  | str i =>
    cases b with
    | str j =>
      cases e
      rw [pa.str] at rx
      rw [pb.str] at ry
      exact op_lt_str pins s σ H _ _ v u Q I rx ry ⟨i, j, rfl, rfl, q _ _ (Same.refl _) (.bl _)⟩
    | _ => cases e
  | _ => cases b <;> cases e
theorem od_gt : OpR X (compareOp .Gt) (rD2 X.K gGt) := by
  intro pins s σ H x y v u Q I rx ry ⟨A, a, b, d, t, pa, pb, e, q⟩
  cases a with
  | int i =>
    cases b with
    | int j =>
      cases e
      rw [pa.int] at rx
      rw [pb.int] at ry
      exact op_gt pins s σ H _ _ v u Q I rx ry ⟨i, j, rfl, rfl, q _ _ (Same.refl _) (.bl _)⟩
    | _ => cases e
  | str i =>
    cases b with
    | str j =>
      cases e
      rw [pa.str] at rx
      rw [pb.str] at ry
      exact op_gt_str pins s σ H _ _ v u Q I rx ry ⟨i, j, rfl, rfl, q _ _ (Same.refl _) (.bl _)⟩
    | _ => cases e
  | _ => cases b <;> cases e
theorem od_le : OpR X (compareOp .LtE) (rD2 X.K gLe) := by
  intro pins s σ H x y v u Q I rx ry ⟨A, a, b, d, t, pa, pb, e, q⟩
  cases a with
  | int i =>
    cases b with
    | int j =>
      cases e
      rw [pa.int] at rx
      rw [pb.int] at ry
      exact op_le pins s σ H _ _ v u Q I rx ry ⟨i, j, rfl, rfl, q _ _ (Same.refl _) (.bl _)⟩
    | _ => cases e
  | str i =>
    cases b with
    | str j =>
      cases e
      rw [pa.str] at rx
      rw [pb.str] at ry
      exact op_le_str pins s σ H _ _ v u Q I rx ry ⟨i, j, rfl, rfl, q _ _ (Same.refl _) (.bl _)⟩
    | _ => cases e
  | _ => cases b <;> cases e
theorem od_ge : OpR X (compareOp .GtE) (rD2 X.K gGe) := by
  intro pins s σ H x y v u Q I rx ry ⟨A, a, b, d, t, pa, pb, e, q⟩
  cases a with
  | int i =>
    cases b with
    | int j =>
      cases e
      rw [pa.int] at rx
      rw [pb.int] at ry
      exact op_ge pins s σ H _ _ v u Q I rx ry ⟨i, j, rfl, rfl, q _ _ (Same.refl _) (.bl _)⟩
    | _ => cases e
  | str i =>
    cases b with
    | str j =>
      cases e
      rw [pa.str] at rx
      rw [pb.str] at ry
      exact op_ge_str pins s σ H _ _ v u Q I rx ry ⟨i, j, rfl, rfl, q _ _ (Same.refl _) (.bl _)⟩
    | _ => cases e
  | _ => cases b <;> cases e
mutual
theorem Rp.dp {K : PySem.W.Frag} {A : Addr → Prop} {H : Hp} : ∀ {v : V} {d : D} {x : PyData}, Rp K A H v d → d.py = some x → Dp K H v x
  | _, _, _, .non, e => by cases e; exact .non
  | _, _, _, .bl b, e => by cases e; exact .bl b
  | _, _, _, .int i, e => by cases e; exact .int i
  | _, _, _, .str i, e => by cases e; exact .str i
  | _, .tup ds, _, .tup h q, e => by
    unfold D.py at e
    cases hp : pyAll ds with
    | none => rw [hp] at e; cases e
    | some ys => rw [hp] at e; cases e; exact .tup h.sq (RpA.dp q hp)
  | _, .lst ds, _, .lst h n q, e => by
    unfold D.py at e
    cases hp : pyAll ds with
    | none => rw [hp] at e; cases e
    | some ys => rw [hp] at e; cases e; exact .lst (SqL.of h) (RpA.dp q hp)
  | _, _, _, .scr _ _, e => by unfold D.py at e; cases e
  | _, _, _, .fn _, e => by unfold D.py at e; cases e
  | _, _, _, .obj _ _ _, e => by unfold D.py at e; cases e
  | _, _, _, .exn _ _ _ _, e => by unfold D.py at e; cases e
  | _, _, _, .dK _ _ _ _, e => by unfold D.py at e; cases e
  | _, _, _, .dT _ _ _ _, e => by unfold D.py at e; cases e
theorem RpA.dp {K : PySem.W.Frag} {A : Addr → Prop} {H : Hp} : ∀ {v : List V} {d : List D} {x : List PyData}, RpA K A H v d → pyAll d = some x → DpAll K H v x
  | _, _, _, .nil, e => by cases e; exact .nil
  | _, d :: ds, _, .cons h q, e => by
    unfold pyAll at e
    cases h1 : d.py with
    | none => rw [h1] at e; cases e
    | some y =>
      rw [h1] at e
      cases h2 : pyAll ds with
      | none => rw [h2] at e; cases e
      | some ys => rw [h2] at e; cases e; exact .cons (Rp.dp h h1) (RpA.dp q h2)
end
theorem RpB.dp {K : PySem.W.Frag} {A : Addr → Prop} {H : Hp} {v : V} {d : D} {x : PyData} (h : RpB K A H v d) (e : d.py = some x) : Dp K H v x := by
  cases h with
  | of h => exact h.dp e
  | @own p ws cs h q =>
    unfold D.py at e
    cases hp : pyAll cs with
    | none => rw [hp] at e; cases e
    | some ys => rw [hp] at e; cases e; exact .lst (SqL.of h) (RpA.dp q hp)
  | ownK _ _ _ => unfold D.py at e; cases e
  | ownT _ _ _ => unfold D.py at e; cases e
theorem eqD_some {a b : D} {k : Bool} (e : eqD a b = some k) : (∃ i j, a = .int i ∧ b = .int j ∧ k = decide (i = j)) ∨ (∃ i j, a = .str i ∧ b = .str j ∧ k = decide (i = j)) ∨ (∃ i j, a = .bl i ∧ b = .bl j ∧ k = decide (i = j)) ∨ (a = .non ∧ b = .non ∧ k = true) ∨
    ∃ x y, a.py = some x ∧ b.py = some y ∧ SeqAt.shaped x = true ∧ SeqAt.shaped y = true ∧ k = PyData.eqv x y := by
  unfold eqD at e
  split at e
  · cases e; exact .inl ⟨_, _, rfl, rfl, rfl⟩
  · cases e; exact .inr (.inl ⟨_, _, rfl, rfl, rfl⟩)
  · cases e; exact .inr (.inr (.inl ⟨_, _, rfl, rfl, rfl⟩))
  · cases e; exact .inr (.inr (.inr (.inl ⟨rfl, rfl, rfl⟩)))
  · split at e
    · rename_i x y hx hy
      split at e
      · rename_i hs
        cases e
        exact .inr (.inr (.inr (.inr ⟨x, y, hx, hy, hs.1, hs.2, rfl⟩)))
      · cases e
    · cases e
theorem map_some {α β : Type} {o : Option α} {f : α → β} {z : β} (e : o.map f = some z) : ∃ k, o = some k ∧ z = f k := by
  cases o with
  | none => cases e
  | some k => cases e; exact ⟨k, rfl, rfl⟩
theorem decI {i j : Int} : decide (V.int i = V.int j) = decide (i = j) := by rw [decide_eq_decide]; simp
theorem decS {i j : Str} : decide (V.str i = V.str j) = decide (i = j) := by rw [decide_eq_decide]; simp
theorem decB {i j : Bool} : decide (V.bl i = V.bl j) = decide (i = j) := by rw [decide_eq_decide]; simp
theorem od_eq (hu : X.A.units + 64 < cLine) : OpR X (compareOp .Eq) (rD2 X.K gEq) := by
  intro pins s σ H x y v u Q I rx ry ⟨A, a, b, d, t, pa, pb, e, q⟩
  obtain ⟨k, e2, rfl⟩ := map_some e
  rcases eqD_some e2 with ⟨i, j, rfl, rfl, rfl⟩ | ⟨i, j, rfl, rfl, rfl⟩ | ⟨i, j, rfl, rfl, rfl⟩ | ⟨rfl, rfl, rfl⟩ | ⟨x', y', hx, hy, sx, sy, rfl⟩
  · rw [pa.int] at rx; rw [pb.int] at ry
    exact op_eq pins s σ H _ _ v u Q I rx ry ⟨rfl, by rw [decI]; exact q _ _ (Same.refl _) (.bl _)⟩
  · rw [pa.str] at rx; rw [pb.str] at ry
    exact op_eq pins s σ H _ _ v u Q I rx ry ⟨rfl, by rw [decS]; exact q _ _ (Same.refl _) (.bl _)⟩
  · rw [pa.bl] at rx; rw [pb.bl] at ry
    exact op_eq pins s σ H _ _ v u Q I rx ry ⟨rfl, by rw [decB]; exact q _ _ (Same.refl _) (.bl _)⟩
  · rw [pa.non] at rx; rw [pb.non] at ry
    exact op_eq pins s σ H _ _ v u Q I rx ry ⟨rfl, q _ _ (Same.refl _) (.bl _)⟩
  · exact op_eqD hu pins s σ H _ _ v u Q I rx ry ⟨x', y', pa.dp hx, pb.dp hy, sx, sy, q _ _ (Same.refl _) (.bl _)⟩
theorem od_ne (hu : X.A.units + 64 < cLine) : OpR X (compareOp .NotEq) (rD2 X.K gNe) := by
  intro pins s σ H x y v u Q I rx ry ⟨A, a, b, d, t, pa, pb, e, q⟩
  obtain ⟨k, e2, rfl⟩ := map_some e
  rcases eqD_some e2 with ⟨i, j, rfl, rfl, rfl⟩ | ⟨i, j, rfl, rfl, rfl⟩ | ⟨i, j, rfl, rfl, rfl⟩ | ⟨rfl, rfl, rfl⟩ | ⟨x', y', hx, hy, sx, sy, rfl⟩
  · rw [pa.int] at rx; rw [pb.int] at ry
    exact op_ne pins s σ H _ _ v u Q I rx ry ⟨rfl, by rw [decI]; exact q _ _ (Same.refl _) (.bl _)⟩
  · rw [pa.str] at rx; rw [pb.str] at ry
    exact op_ne pins s σ H _ _ v u Q I rx ry ⟨rfl, by rw [decS]; exact q _ _ (Same.refl _) (.bl _)⟩
  · rw [pa.bl] at rx; rw [pb.bl] at ry
    exact op_ne pins s σ H _ _ v u Q I rx ry ⟨rfl, by rw [decB]; exact q _ _ (Same.refl _) (.bl _)⟩
  · rw [pa.non] at rx; rw [pb.non] at ry
    exact op_ne pins s σ H _ _ v u Q I rx ry ⟨rfl, q _ _ (Same.refl _) (.bl _)⟩
  · exact op_neD hu pins s σ H _ _ v u Q I rx ry ⟨x', y', pa.dp hx, pb.dp hy, sx, sy, q _ _ (Same.refl _) (.bl _)⟩
theorem isNon_dec {K : PySem.W.Frag} {A : Addr → Prop} {H : Hp} {x : V} {a : D} (h : RpB K A H x a) : decide (x = V.non) = isNon a := by
  cases h with
  | of h => cases h <;> simp [isNon]
  | own _ _ => simp [isNon]
  | ownK _ _ _ => simp [isNon]
  | ownT _ _ _ => simp [isNon]
theorem od_is : OpR X (compareOp .Is) (rD2 X.K gIs) := by
  intro pins s σ H x y v u Q I rx ry ⟨A, a, b, d, t, pa, pb, e, q⟩
  cases b with
  | non =>
    have e' : some (D.bl (isNon a)) = some d := by
      rw [← e]
      cases a <;> rfl
    cases e'
    rw [pb.non] at ry
    exact op_isN pins s σ H _ _ v u Q I rx ry ⟨rfl, by rw [isNon_dec pa]; exact q _ _ (Same.refl _) (.bl _)⟩
  | bl k =>
    cases a with
    | bl j =>
      cases e
      rw [pa.bl] at rx
      rw [pb.bl] at ry
      exact op_isBl pins s σ H _ _ v u Q I rx ry ⟨j, k, rfl, rfl, q _ _ (Same.refl _) (.bl _)⟩
    | _ => cases e
  | _ => cases a <;> cases e
theorem od_isnot : OpR X (compareOp .IsNot) (rD2 X.K gIsNot) := by
  intro pins s σ H x y v u Q I rx ry ⟨A, a, b, d, t, pa, pb, e, q⟩
  cases b with
  | non =>
    have e' : some (D.bl (!isNon a)) = some d := by
      rw [← e]
      cases a <;> rfl
    cases e'
    rw [pb.non] at ry
    exact op_notN pins s σ H _ _ v u Q I rx ry ⟨rfl, by rw [isNon_dec pa]; exact q _ _ (Same.refl _) (.bl _)⟩
  | bl k =>
    cases a with
    | bl j =>
      cases e
      rw [pa.bl] at rx
      rw [pb.bl] at ry
      exact op_notBl pins s σ H _ _ v u Q I rx ry ⟨j, k, rfl, rfl, q _ _ (Same.refl _) (.bl _)⟩
    | _ => cases e
  | _ => cases a <;> cases e
theorem inD_some {a l : D} {k : Bool} (e : inD a l = some k) : (∃ x y, a = .str x ∧ l = .str y ∧ k = inStr x y) ∨
    ∃ ds x ys, (l = .lst ds ∨ l = .tup ds) ∧ a.py = some x ∧ pyAll ds = some ys ∧ SeqAt.shaped x = true ∧ SeqAt.shaped (.list ys) = true ∧ k = ys.any fun z => PyData.eqv z x := by
  unfold inD at e
  split at e
  · cases e; exact .inl ⟨_, _, rfl, rfl, rfl⟩
  · split at e
    · rename_i x y hx hy
      split at e
      · rename_i hs
        cases e
        exact .inr ⟨_, x, y, .inl rfl, hx, hy, hs.1, hs.2, rfl⟩
      · cases e
    · cases e
  · split at e
    · rename_i x y hx hy
      split at e
      · rename_i hs
        cases e
        exact .inr ⟨_, x, y, .inr rfl, hx, hy, hs.1, hs.2, rfl⟩
      · cases e
    · cases e
  · cases e
def rInT (K : PySem.W.Frag) : R2 := fun x y H Q => ∃ d ds, Dp K H x d ∧ Dp K H y (.tuple ds) ∧ SeqAt.shaped d = true ∧ SeqAt.shaped (.list ds) = true ∧ Q (.bl (ds.any fun z => PyData.eqv z d)) H
def rNotInT (K : PySem.W.Frag) : R2 := fun x y H Q => ∃ d ds, Dp K H x d ∧ Dp K H y (.tuple ds) ∧ SeqAt.shaped d = true ∧ SeqAt.shaped (.list ds) = true ∧ Q (.bl (!ds.any fun z => PyData.eqv z d)) H
theorem op_inT (hu : X.A.units + 65 < cLine) : OpR X (compareOp .In) (rInT X.K) := by
  intro pins s σ H x y v u Q I rx ry h
  obtain ⟨d, ds, hd, he, sd, se, q⟩ := h
  obtain ⟨as, r1⟩ := Dp.reads I d x v hd rx
  obtain ⟨bs, r2⟩ := Dp.reads I (.tuple ds) y u he ry
  exact SeqAt.in_tuple_reads r2 r1 (SeqAt.canLay_of_shaped se) (SeqAt.canLay_of_shaped sd) (room_in_shaped sd hu) ⟨.bl _, H, I, rfl, q⟩
theorem op_notInT (hu : X.A.units + 65 < cLine) : OpR X (compareOp .NotIn) (rNotInT X.K) := by
  intro pins s σ H x y v u Q I rx ry h
  obtain ⟨d, ds, hd, he, sd, se, q⟩ := h
  obtain ⟨as, r1⟩ := Dp.reads I d x v hd rx
  obtain ⟨bs, r2⟩ := Dp.reads I (.tuple ds) y u he ry
  exact SeqAt.notIn_tuple_reads r2 r1 (SeqAt.canLay_of_shaped se) (SeqAt.canLay_of_shaped sd) (room_in_shaped sd hu) ⟨.bl _, H, I, rfl, q⟩
theorem od_in (hu : X.A.units + 65 < cLine) : OpR X (compareOp .In) (rD2 X.K gIn) := by
  intro pins s σ H x y v u Q I rx ry ⟨A, a, b, d, t, pa, pb, e, q⟩
  obtain ⟨k, e2, rfl⟩ := map_some e
  rcases inD_some e2 with ⟨i, j, rfl, rfl, rfl⟩ | ⟨ds, x', ys, hl, hx, hy, sx, sy, rfl⟩
  · rw [pa.str] at rx; rw [pb.str] at ry
    exact op_in_str pins s σ H _ _ v u Q I rx ry ⟨i, j, rfl, rfl, q _ _ (Same.refl _) (.bl _)⟩
  · rcases hl with rfl | rfl
    · exact op_inD hu pins s σ H _ _ v u Q I rx ry ⟨x', ys, pa.dp hx, pb.dp (by unfold D.py; rw [hy]; rfl), sx, sy, q _ _ (Same.refl _) (.bl _)⟩
    · exact op_inT hu pins s σ H _ _ v u Q I rx ry ⟨x', ys, pa.dp hx, pb.dp (by unfold D.py; rw [hy]; rfl), sx, sy, q _ _ (Same.refl _) (.bl _)⟩
theorem od_notin (hu : X.A.units + 65 < cLine) : OpR X (compareOp .NotIn) (rD2 X.K gNotIn) := by
  intro pins s σ H x y v u Q I rx ry ⟨A, a, b, d, t, pa, pb, e, q⟩
  obtain ⟨k, e2, rfl⟩ := map_some e
  rcases inD_some e2 with ⟨i, j, rfl, rfl, rfl⟩ | ⟨ds, x', ys, hl, hx, hy, sx, sy, rfl⟩
  · rw [pa.str] at rx; rw [pb.str] at ry
    exact op_notIn_str pins s σ H _ _ v u Q I rx ry ⟨i, j, rfl, rfl, q _ _ (Same.refl _) (.bl _)⟩
  · rcases hl with rfl | rfl
    · exact op_notInD hu pins s σ H _ _ v u Q I rx ry ⟨x', ys, pa.dp hx, pb.dp (by unfold D.py; rw [hy]; rfl), sx, sy, q _ _ (Same.refl _) (.bl _)⟩
    · exact op_notInT hu pins s σ H _ _ v u Q I rx ry ⟨x', ys, pa.dp hx, pb.dp (by unfold D.py; rw [hy]; rfl), sx, sy, q _ _ (Same.refl _) (.bl _)⟩
end
end DL
namespace DL
open L2 PySem PySem.Spec PyProof.Rows
section
variable {X : Cx} {G : Gd} {O : List Nat} {W : WX} {a b c e : Expr} {es : List Expr} {ma mb mc : ME} {pos : Pos}
theorem de_var (i : Nat) {x : Str} {pos : Pos} (hO : O.contains i = false) (hN : X.N[i]? = some x) (hv : Vis X.env.scope x) (hd : (x == ("__debug__" : Str)) = false := by decide)
    (hcd : (x == ("__classdict__" : Str)) = false := by decide) : DE X G O W (.Name x pos) (mVar i) := by
  refine pe_imp (pe_var hN hv hd hcd) fun σ H Q ⟨A, ms, ρ, R, q⟩ => ?_
  unfold mVar at q
  split at q
  · rename_i d h
    obtain ⟨v, h1, h2⟩ := R.fz i d h fun z => by rw [List.contains_iff_mem.mpr z] at hO; cases hO
    exact ⟨v, h1, q v H R Kp.refl h2⟩
  · exact q.elim
theorem de_c {e : Expr} {v : V} {d : D} (h : PE X e (tC v)) (r : ∀ A H, Rp X.K A H v d) : DE X G O W e (mK d) :=
  pe_imp h fun σ H Q ⟨A, ms, ρ, R, q⟩ => q v H R Kp.refl (r A H)
theorem de_int {i j pos} : DE X G O W (.Constant (.int i) j pos) (mK (.int i)) := de_c pe_int fun _ _ => .int i
theorem de_bl {b j pos} : DE X G O W (.Constant (.bool b) j pos) (mK (.bl b)) := de_c pe_bl fun _ _ => .bl b
theorem de_non {j pos} : DE X G O W (.Constant .none j pos) (mK .non) := de_c pe_non fun _ _ => .non
theorem de_str {x j pos} : DE X G O W (.Constant (.str x) j pos) (mK (.str x)) := de_c pe_str fun _ _ => .str x
theorem rp_of {α : Type} {g : Option α} {ρ : En} {K : PySem.W.Frag} {A : Addr → Prop} {ms : Nat → Option Addr} {σ : L2.St} {H : Hp} {β : Type} {rel : Hp → β → α → Prop} {Q : β → Hp → Prop} (R : RelS K G O A ms σ H ρ)
    (h : RPost K G O W A ms σ H rel Q (ret g ρ)) : ∃ d, g = some d ∧ ∀ v H', Same H H' → rel H' v d → Q v H' := by
  cases g with
  | none => exact h.elim
  | some d => exact ⟨d, rfl, fun v H' s r => h v H' (R.same s) (Kp.same s) r⟩
theorem de_un {op : UnaryOp} {g : D → Option D} (ho : UnR X (unaryOp op) (rD1 X.K g)) (ha : DE X G O W a ma) : DE X G O W (.UnaryOp op a pos) (m1 g ma) := by
  refine pe_imp (pe_un ho ha) fun σ H Q ⟨A, ms, ρ, R, q⟩ => ?_
  refine ⟨A, ms, ρ, R, q.bind.mono ?_⟩
  rintro x H1 ⟨d, ρ1, R1, k1, r1, q1⟩
  obtain ⟨z, hz, q2⟩ := rp_of R1 q1
  exact ⟨A, d, z, R1.trk, .of r1, hz, q2⟩
theorem op2_go {r : R2} {g : D → D → Option D} {K : PySem.W.Frag} (hr : ∀ x y H Q, rD2 K g x y H Q → r x y H Q) {σ : L2.St} {H : Hp} {Q : VK} (h : tE K G O W (m2 g ma mb) σ H Q) : tOp r (tE K G O W ma) (tE K G O W mb) σ H Q := by
  obtain ⟨A, ms, ρ, R, q⟩ := h
  refine ⟨A, ms, ρ, R, q.bind.mono ?_⟩
  rintro x H1 ⟨d, ρ1, R1, k1, r1, q1⟩
  refine ⟨A, ms, ρ1, R1, q1.bind.mono ?_⟩
  rintro y H2 ⟨d2, ρ2, R2', k2, r2, q2⟩
  obtain ⟨z, hz, q3⟩ := rp_of R2' q2
  exact hr _ _ _ _ ⟨A, d, d2, z, R2'.trk, .of (r1.tr (R1.kt k2)), .of r2, hz, q3⟩
theorem de_bin {op : Operator} {g : D → D → Option D} (ho : OpR X (binaryOp op) (rD2 X.K g)) (ha : DE X G O W a ma) (hb : DE X G O W b mb) : DE X G O W (.BinOp a op b pos) (m2 g ma mb) :=
  pe_imp (pe_op ho ha hb) fun _ _ _ h => op2_go (fun _ _ _ _ z => z) h
theorem de_cmp {op : CmpOp} {g : D → D → Option D} (ho : OpR X (compareOp op) (rD2 X.K g)) (ha : DE X G O W a ma) (hb : DE X G O W b mb) (hm : behindInMarks op b = false) : DE X G O W (.Compare a [op] [b] pos) (m2 g ma mb) :=
  pe_imp (pe_cmpR ho ha hb hm) fun _ _ _ h => op2_go (fun _ _ _ _ z => z) h
theorem de_ix {g : D → D → Option D} (hr : IxR X (rD2 X.K g)) (ha : DE X G O W a ma) (hb : DE X G O W b mb) (hs : PlainIx b) : DE X G O W (.Subscript a b pos) (m2 g ma mb) :=
  pe_imp (pe_ix hr ha hb hs) fun _ _ _ h => op2_go (fun _ _ _ _ z => z) h
theorem tru_ok' {K : PySem.W.Frag} {A : Addr → Prop} {H : Hp} {x : V} {d : D} {k : Bool} (h : Rp K A H x d) (e : tru d = some k) : TruV K x H k := by
  cases h with
  | non => cases e; rfl
  | bl b => cases e; rfl
  | int i => cases e; rfl
  | str y =>
    have e' : (if y.length ≤ sizeLine then some ((y.length : Int) != 0) else none) = some k := e
    split at e'
    · rename_i hz
      cases e'
      exact ⟨hz, rfl⟩
    · cases e'
  | tup h q =>
    cases e
    refine .inr (.inl ⟨_, h.sq, ?_⟩)
    have := q.nil_iff
    cases q <;> rfl
  | lst h n q =>
    cases e
    refine .inl ⟨_, SqL.of h, ?_⟩
    cases q <;> rfl
  | scr h q =>
    cases e
    refine .inl ⟨_, h.sq, ?_⟩
    cases q <;> rfl
  | fn _ => cases e
  | obj _ _ _ => cases e
  | exn _ _ _ _ => cases e
  | dK _ _ _ _ => cases e
  | dT _ _ _ _ => cases e
theorem dt_tru (ha : DE X G O W a ma) (he : ∀ whole, isTrue a X.env whole = (do let v ← whole; standAt a.pos; holding [v] (truthy v)) := by intro _; rfl) : DT X G O W a (mTru ma) := by
  refine pt_imp (pt_truth ha he) fun σ H Q ⟨A, ms, ρ, R, q⟩ => ?_
  refine ⟨A, ms, ρ, R, q.bind.mono ?_⟩
  rintro x H1 ⟨d, ρ1, R1, k1, r1, q1⟩
  obtain ⟨z, hz, q2⟩ := rp_of R1 q1
  exact ⟨z, tru_ok' r1 hz, q2 z H1 (Same.refl _) rfl⟩
def asB : D → Option Bool
  | .bl b => some b
  | _ => none
def mTest (m : ME) : MT := fun ρ => (m ρ).bind fun x ρ1 => ret (asB x) ρ1
theorem test_go {t : TE} {m : ME} {K : PySem.W.Frag} (ht : ∀ σ H Q, tE K G O W m σ H Q → t σ H Q) {σ : L2.St} {H : Hp} {Q : Bool → Hp → Prop} (h : tT K G O W (mTest m) σ H Q) : tTest t σ H Q := by
  obtain ⟨A, ms, ρ, R, q⟩ := h
  refine ht _ _ _ ⟨A, ms, ρ, R, q.bind.mono ?_⟩
  rintro x H1 ⟨d, ρ1, R1, k1, r1, q1⟩
  obtain ⟨z, hz, q2⟩ := rp_of R1 q1
  cases d with
  | bl k =>
    cases hz
    cases r1
    exact ⟨_, rfl, q2 _ H1 (Same.refl _) rfl⟩
  | _ => cases hz
theorem dt_cmp {op : CmpOp} {g : D → D → Option D} (ho : OpR X (compareOp op) (rD2 X.K g)) (ha : DE X G O W a ma) (hb : DE X G O W b mb) (hm : behindInMarks op b = false) : DT X G O W (.Compare a [op] [b] pos) (mTest (m2 g ma mb)) :=
  pt_imp (pt_cmpR ho ha hb hm) fun _ _ _ h => test_go (fun _ _ _ z => op2_go (fun _ _ _ _ z => z) z) h
theorem chain_go {g g' : D → D → Option D} {K : PySem.W.Frag} {σ : L2.St} {H : Hp} {Q : VK} (h : tE K G O W (mChain g g' ma mb mc) σ H Q) : tChain (rD2 K g) (rD2 K g') (tE K G O W ma) (tE K G O W mb) (tE K G O W mc) σ H Q := by
  obtain ⟨A, ms, ρ, R, q⟩ := h
  refine ⟨A, ms, ρ, R, q.bind.mono ?_⟩
  rintro x H1 ⟨d, ρ1, R1, k1, r1, q1⟩
  refine ⟨A, ms, ρ1, R1, q1.bind.mono ?_⟩
  rintro y H2 ⟨d2, ρ2, R2', k2, r2, q2⟩
  obtain ⟨z, hz, q3⟩ := rp_of (rel := Rp K A) R2' q2.bind
  refine ⟨A, d, d2, z, R2'.trk, .of (r1.tr (R1.kt k2)), .of r2, hz, fun v H3 s r => ?_⟩
  obtain ⟨d3, ρ3, R3, k3, r3, q4⟩ := q3 v H3 s r
  cases d3 with
  | bl k =>
    cases r3
    refine ⟨_, rfl, ?_⟩
    cases k with
    | true =>
      rw [if_pos rfl]
      refine ⟨A, ms, ρ3, R3, RPost.mono (RPost.bind q4) ?_⟩
      rintro w H4 ⟨d4, ρ4, R4, k4, r4, q5⟩
      obtain ⟨z2, hz2, q6⟩ := rp_of R4 q5
      exact ⟨A, d2, d4, z2, R4.trk, .of ((r2.tr (R2'.kt k3)).tr (R3.kt k4)), .of r4, hz2, q6⟩
    | false =>
      rw [if_neg Bool.false_ne_true]
      exact q4 _ H3 R3 Kp.refl (.bl false)
  | _ => exact q4.elim
theorem de_chain {op op' : CmpOp} {g g' : D → D → Option D} (ho : OpR X (compareOp op) (rD2 X.K g)) (ho' : OpR X (compareOp op') (rD2 X.K g')) (ha : DE X G O W a ma) (hb : DE X G O W b mb) (hc : DE X G O W c mc)
    (hm : lastMarks [op, op'] [b, c] = false := by with_unfolding_all rfl) : DE X G O W (.Compare a [op, op'] [b, c] pos) (mChain g g' ma mb mc) :=
  pe_imp (pe_chain ho ho' ha hb hc hm) fun _ _ _ h => chain_go h
theorem dt_chain {op op' : CmpOp} {g g' : D → D → Option D} (ho : OpR X (compareOp op) (rD2 X.K g)) (ho' : OpR X (compareOp op') (rD2 X.K g')) (ha : DE X G O W a ma) (hb : DE X G O W b mb) (hc : DE X G O W c mc)
    (hm : lastMarks [op, op'] [b, c] = false := by with_unfolding_all rfl) : DT X G O W (.Compare a [op, op'] [b, c] pos) (mTest (mChain g g' ma mb mc)) :=
  pt_imp (pt_chain ho ho' ha hb hc hm) fun _ _ _ h => test_go (fun _ _ _ z => chain_go z) h
def DW (X : Cx) (G : Gd) (O : List Nat) (W : WX) (e : Expr) (m : MT) : Prop := PW X e (tT X.K G O W m)
variable {ta tb tc : MT} {rest : List Expr}
theorem DW.t (h : DW X G O W e ta) : DT X G O W e ta := PW.pt h
theorem dw_and1 (ha : DT X G O W a ta) : DW X G O W (.BoolOp .And [a] pos) ta := pw_and1 ha
theorem dw_or1 (ha : DT X G O W a ta) : DW X G O W (.BoolOp .Or [a] pos) ta := pw_or1 ha
theorem dw_and (ha : DT X G O W a ta) (hb : DW X G O W (.BoolOp .And (b :: rest) pos) tb) : DW X G O W (.BoolOp .And (a :: b :: rest) pos) (mAndT ta tb) := by
  refine pw_imp (pw_and ha hb) fun σ H Q ⟨A, ms, ρ, R, q⟩ => ?_
  refine ⟨A, ms, ρ, R, q.bind.mono ?_⟩
  rintro k H1 ⟨d, ρ1, R1, k1, rfl, q1⟩
  cases k with
  | true => exact ⟨A, ms, ρ1, R1, q1⟩
  | false => exact q1 _ H1 R1 Kp.refl rfl
theorem dw_or (ha : DT X G O W a ta) (hb : DW X G O W (.BoolOp .Or (b :: rest) pos) tb) : DW X G O W (.BoolOp .Or (a :: b :: rest) pos) (mOrT ta tb) := by
  refine pw_imp (pw_or ha hb) fun σ H Q ⟨A, ms, ρ, R, q⟩ => ?_
  refine ⟨A, ms, ρ, R, q.bind.mono ?_⟩
  rintro k H1 ⟨d, ρ1, R1, k1, rfl, q1⟩
  cases k with
  | true => exact q1 _ H1 R1 Kp.refl rfl
  | false => exact ⟨A, ms, ρ1, R1, q1⟩
theorem dt_not (ha : DT X G O W a ta) : DT X G O W (.UnaryOp .Not a pos) (mNotT ta) := by
  refine pt_imp (pt_not ha) fun σ H Q ⟨A, ms, ρ, R, q⟩ => ?_
  refine ⟨A, ms, ρ, R, q.bind.mono ?_⟩
  rintro k H1 ⟨d, ρ1, R1, k1, rfl, q1⟩
  exact q1 _ H1 R1 Kp.refl rfl
theorem de_if (hc : DT X G O W c tc) (ha : DE X G O W a ma) (hb : DE X G O W b mb) : DE X G O W (.IfExp c a b pos) (mIf tc ma mb) := by
  refine pe_imp (pe_ifExp hc ha hb) fun σ H Q ⟨A, ms, ρ, R, q⟩ => ?_
  refine ⟨A, ms, ρ, R, q.bind.mono ?_⟩
  rintro k H1 ⟨d, ρ1, R1, k1, rfl, q1⟩
  cases k with
  | true => exact ⟨A, ms, ρ1, R1, q1⟩
  | false => exact ⟨A, ms, ρ1, R1, q1⟩
theorem de_one {op} (ha : DE X G O W a ma) : DE X G O W (.BoolOp op [a] pos) ma := pe_one ha
theorem de_and (ha : DE X G O W a ma) (hb : DE X G O W (.BoolOp .And (b :: rest) pos) mb) : DE X G O W (.BoolOp .And (a :: b :: rest) pos) (mAnd ma mb) := by
  refine pe_imp (pe_andT ha hb) fun σ H Q ⟨A, ms, ρ, R, q⟩ => ?_
  refine ⟨A, ms, ρ, R, q.bind.mono ?_⟩
  rintro x H1 ⟨d, ρ1, R1, k1, r1, q1⟩
  obtain ⟨k, hk, q2⟩ := rp_of (rel := fun _ => @Eq Bool) R1 q1.bind
  obtain ⟨_, ρ2, R2', k2, rfl, q3⟩ := q2 k H1 (Same.refl _) rfl
  refine ⟨k, tru_ok' r1 hk, ?_⟩
  cases k with
  | true => exact ⟨A, ms, ρ2, R2', q3⟩
  | false => exact q3 _ H1 R2' Kp.refl r1
theorem de_or (ha : DE X G O W a ma) (hb : DE X G O W (.BoolOp .Or (b :: rest) pos) mb) : DE X G O W (.BoolOp .Or (a :: b :: rest) pos) (mOr ma mb) := by
  refine pe_imp (pe_orT ha hb) fun σ H Q ⟨A, ms, ρ, R, q⟩ => ?_
  refine ⟨A, ms, ρ, R, q.bind.mono ?_⟩
  rintro x H1 ⟨d, ρ1, R1, k1, r1, q1⟩
  obtain ⟨k, hk, q2⟩ := rp_of (rel := fun _ => @Eq Bool) R1 q1.bind
  obtain ⟨_, ρ2, R2', k2, rfl, q3⟩ := q2 k H1 (Same.refl _) rfl
  refine ⟨k, tru_ok' r1 hk, ?_⟩
  cases k with
  | true => exact q3 _ H1 R2' Kp.refl r1
  | false => exact ⟨A, ms, ρ2, R2', q3⟩
variable {mr : MA}
theorem da_nil : DA X G O W [] mNil := pa_imp pa_nil fun σ H Q ⟨A, ms, ρ, R, q⟩ => q [] H R Kp.refl .nil
theorem da_cons (ha : DE X G O W e ma) (hr : DA X G O W es mr) (hs : starEach (e :: es) X.env = (false, eval e X.env) :: starEach es X.env := by rfl) : DA X G O W (e :: es) (mCons ma mr) := by
  refine pa_imp (pa_cons ha hr hs) fun σ H Q ⟨A, ms, ρ, R, q⟩ => ?_
  refine ⟨A, ms, ρ, R, q.bind.mono ?_⟩
  rintro x H1 ⟨d, ρ1, R1, k1, r1, q1⟩
  refine ⟨A, ms, ρ1, R1, RPost.mono (RPost.bind q1) ?_⟩
  rintro xs H2 ⟨ds, ρ2, R2', k2, r2, q2⟩
  exact q2 _ H2 R2' Kp.refl (.cons (r1.tr (R1.kt k2)) r2)
theorem de_tup {x1} (h : DA X G O W es mr) : DE X G O W (.Tuple es x1 pos) (mN gTup mr) := by
  refine pe_imp (pe_tup h) fun σ H Q ⟨A, ms, ρ, R, q⟩ => ?_
  refine ⟨A, ms, ρ, R, q.bind.mono ?_⟩
  rintro xs H1 ⟨ds, ρ1, R1, k1, r1, q1⟩
  obtain ⟨z, hz, q2⟩ := rp_of R1 q1
  obtain ⟨hl, rfl⟩ := ite_d (x := .tup ds) hz
  exact ⟨by rw [r1.length]; exact hl, fun p hp => q2 _ _ (same_upd hp) (new_tup R1.trk r1 hp)⟩
def FPost (K : PySem.W.Frag) (G : Gd) (O : List Nat) (W : WX) (A : Addr → Prop) (ms : Nat → Option Addr) (σ : L2.St) (H : Hp) (Q : VK) : R D → Prop
  | .ok d ρ' => ∀ p H', RelS K G O A ms σ H' ρ' → RelS K G O (fun a => A a ∨ a = p) ms σ H' ρ' → Kp O ms H H' → H p = none → Own K (fun a => A a ∨ a = p) H' p d → Q (.ref p) H'
  | .ex x ρ' => ∀ dx H', RelS K G O A ms σ H' ρ' → Kp O ms H H' → XRel K A H' x dx → W (.ref (He.ga K x.c)) dx σ H'
  | .bad => False
def tF (K : PySem.W.Frag) (G : Gd) (O : List Nat) (W : WX) (m : ME) : TE := fun σ H Q => ∃ A ms ρ, RelS K G O A ms σ H ρ ∧ FPost K G O W A ms σ H Q (m ρ)
def DF (X : Cx) (G : Gd) (O : List Nat) (W : WX) (e : Expr) (m : ME) : Prop := PE X e (tF X.K G O W m)
theorem RelS.less {K : PySem.W.Frag} {A A' : Addr → Prop} {ms : Nat → Option Addr} {σ : L2.St} {H : Hp} {ρ : En} (R : RelS K G O A ms σ H ρ) (hs : ∀ a, A' a → A a) (h0 : ∀ a, G.A0 a → A' a) (ho : ∀ i p, i ∈ O → ms i = some p → A' p) : RelS K G O A' ms σ H ρ where
  sub := h0
  trk0 := R.trk0
  trk := fun a q => R.trk a (hs a q)
  keep := R.keep
  len := R.len
  fz := fun i d e n => let ⟨v, e1, q⟩ := R.fz i d e n; ⟨v, e1, q.tr fun a o z n => ⟨z, fun k => n (hs a k)⟩⟩
  ow := fun i d e n => let ⟨p, e0, e1, q⟩ := R.ow i d e n; ⟨p, e0, e1, q.tr (fun a o z n => ⟨z, fun k => n (hs a k)⟩) fun o z => z⟩
  inA := ho
  ok := R.ok
  dist := R.dist
  px := R.px
  io := R.io
theorem RelS.grow {K : PySem.W.Frag} {A : Addr → Prop} {ms : Nat → Option Addr} {σ : L2.St} {H H' : Hp} {ρ : En} {p : Addr} {o : HO} (R : RelS K G O A ms σ H ρ) (hp : H p = none) (s : Same H H') (hp' : H' p = some o) (nt : NT o := by intro _ z; cases z) : RelS K G O (fun a => A a ∨ a = p) ms σ H' ρ := by
  have t : Tr A (fun a => A a ∨ a = p) H H' := fun a u e n => ⟨s _ _ e, fun z => z.elim n fun z => by rw [z, hp] at e; cases e⟩
  have R' := R.same s
  exact {
    sub := fun a q => .inl (R.sub a q)
    trk0 := R.trk0
    trk := fun a q => q.elim (R'.trk a) fun z => ⟨o, z ▸ hp', nt⟩
    keep := R'.keep
    len := R.len
    fz := fun i d e n => let ⟨v, e1, q⟩ := R.fz i d e n; ⟨v, e1, q.tr t⟩
    ow := fun i d e n => let ⟨q, e0, e1, w⟩ := R.ow i d e n; ⟨q, e0, e1, w.tr t fun o z => s _ _ z⟩
    inA := fun i q m e => .inl (R.inA i q m e)
    ok := R.ok
    dist := R.dist
    px := R.px
    io := R.io }
theorem RelS.msne {K : PySem.W.Frag} {A : Addr → Prop} {ms : Nat → Option Addr} {σ : L2.St} {H : Hp} {ρ : En} {p : Addr} (R : RelS K G O A ms σ H ρ) (hp : H p = none) : ∀ i ∈ O, ms i ≠ some p := fun i m z => by
  obtain ⟨o, e, _⟩ := R.trk p (R.inA i p m z)
  rw [hp] at e
  cases e
theorem Kp.none {K : PySem.W.Frag} {A : Addr → Prop} {ms : Nat → Option Addr} {σ : L2.St} {H H1 : Hp} {ρ : En} {p : Addr} (R : RelS K G O A ms σ H1 ρ) (k : Kp O ms H H1) (hp : H1 p = none) : H p = none := by
  cases e : H p with
  | none => rfl
  | some o =>
    have := k p o e (R.msne hp)
    rw [hp] at this
    cases this
theorem new_own {K : PySem.W.Frag} {A : Addr → Prop} {H : Hp} {p : Addr} {xs : List V} {ds : List D} (t : Trk A H) (h : RpA K A H xs ds) (hp : H p = none) : Own K (fun a => A a ∨ a = p) (upd H p (.lst xs)) p (.lst ds) :=
  .lst upd_same (h.tr fun a u e n => ⟨same_upd hp _ _ e, fun z => z.elim n fun z => by rw [z, hp] at e; cases e⟩)
theorem DF.toE {e : Expr} {m : ME} (h : DF X G O W e m) : DE X G O W e m := by
  refine pe_imp h fun σ H Q ⟨A, ms, ρ, R, q⟩ => ⟨A, ms, ρ, R, ?_⟩
  cases hm : m ρ with
  | bad => rw [hm] at q; exact q.elim
  | ex x ρ1 => rw [hm] at q; exact q
  | ok d ρ1 =>
    rw [hm] at q
    intro p H' R' _ k hp ow
    have np : ¬ A p := Trk.no (fun a z => R.trk a z) hp
    exact q (.ref p) H' R' k (ow.freeze (fun a z => .inl z) np)
theorem df_lst {es : List Expr} {mr : MA} (h : DA X G O W es mr) : DF X G O W (.List es pos) (mN gLst mr) := by
  refine pe_imp (pe_lst h) fun σ H Q ⟨A, ms, ρ, R, q⟩ => ⟨A, ms, ρ, R, ?_⟩
  unfold mN at q
  cases hm : mr ρ with
  | bad => rw [hm] at q; exact q.elim
  | ex x ρ1 => rw [hm] at q; exact q
  | ok ds ρ1 =>
    rw [hm] at q
    intro xs H1 R1 k1 r1
    have q' : FPost X.K G O W A ms σ H Q (ret (gLst ds) ρ1) := q
    unfold gLst at q'
    split at q'
    · rename_i hz
      refine ⟨by rw [r1.length]; exact hz, fun p hp => ?_⟩
      refine q' p _ (R1.same (same_upd hp)) (R1.grow hp (same_upd hp) upd_same) (k1.trans (Kp.same (same_upd hp))) ?_ (new_own R1.trk r1 hp)
      exact Kp.none R1 k1 hp
    · exact q'.elim
end
end DL
namespace DL
open L2 PySem PySem.Spec PyProof.Rows
inductive Out where
  | nx (r : En) | rt (d : D) (r : En) | bk (r : En) | ct (r : En) | ex (x : Xn) (r : En) | bad
abbrev MS := En → Out
inductive Ret where
  | rt (d o : D) | ex (x : Xn) (o : D) | bad
abbrev FN := List D → Ret
def RetR (K : PySem.W.Frag) (A : Addr → Prop) (fr : Bool) (H H' : Hp) (q : Option Addr) (v : V) (d o : D) : Prop :=
  if fr = true then ∃ r, v = .ref r ∧ H r = none ∧ Own K (fun a => A a ∨ a = r) H' r d ∧ ∀ p, q = some p → Own K (fun a => A a ∨ a = r) H' p o
  else Rp K A H' v d ∧ ∀ p, q = some p → Own K A H' p o
def KI (q : Option Addr) (H H' : Hp) : Prop := ∀ a o, H a = some o → q ≠ some a → H' a = some o
def ArgR (K : PySem.W.Frag) (A : Addr → Prop) (H : Hp) (q : Option Addr) (vs : List V) (ds : List D) : Prop :=
  match q with
  | none => RpA K A H vs ds
  | some p => ∃ vs' d ds', vs = .ref p :: vs' ∧ ds = d :: ds' ∧ A p ∧ Own K A H p d ∧ RpA K A H vs' ds'
def spD (K : PySem.W.Frag) (io fr : Bool) (F : FN) : Sp := fun vs H Q E => ∃ (A : Addr → Prop) (q : Option Addr) (ds : List D), Trk A H ∧ q.isSome = io ∧ ArgR K A H q vs ds ∧
  match F ds with
  | .rt d o => ∀ v H', KI q H H' → RetR K A fr H H' q v d o → Q v H'
  | .ex x o => ∀ dx H', KI q H H' → (∀ p, q = some p → Own K A H' p o) → XRel K A H' x dx → E (.ref (He.ga K x.c)) dx H'
  | .bad => False
structure FnG (P : Program) (w : World) (K : PySem.W.Frag) (mg : Str → Option Value) (base : Heap) (k : Nat) (f : Addr) (io fr : Bool) (F : FN) : Prop where
  run : ∀ (A : Around) (outer : List Env) (s : Shared) (H : Hp) (us : List Value) (vs : List V) (Q : VK) (E : XK), Room k A → A.guards = some [] → Env0 P w K mg base A outer s H → Vals vs us →
    spD K io fr F vs H Q E → codeAny (model P w) A (.call (.ref f) ⟨us, []⟩) (CR (L2N.CX P w) outer P w H s Q E) s
  kp : PySem.W.keepIn K (.ref f) = true
theorem FnG.mono {P : Program} {w : World} {K : PySem.W.Frag} {mg : Str → Option Value} {base : Heap} {j k : Nat} {f : Addr} {io fr : Bool} {F : FN} (h : FnG P w K mg base j f io fr F) (l : j ≤ k) : FnG P w K mg base k f io fr F :=
  ⟨fun A outer s H us vs Q E hr => h.run A outer s H us vs Q E (hr.mono l), h.kp⟩
section
variable (K : PySem.W.Frag) (G : Gd)
def RetG (fr : Bool) (v : V) (H' : Hp) (d o : D) : Prop := KI G.io G.H0 H' ∧ RetR K G.A0 fr G.H0 H' G.io v d o
def io0 (ρ : En) : D := match ρ[0]? with
  | some (some d) => d
  | _ => .non
variable (XC : List Nat → Prop) (Ol O O' : List Nat) (W : WX) (fr : Bool) (A : Addr → Prop) (H : Hp)
def SPost (D0 : Ends) : Out → Prop
  | .nx ρ' => ∀ σ' H' A' ms', RelS K G O' A' ms' σ' H' ρ' → Tr A A' H H' → D0.nx σ' H'
  | .rt d ρ' => ∀ v H', RetG K G fr v H' d (io0 ρ') → D0.rt v H'
  | .bk ρ' => ∀ σ' H' A' ms', RelS K G Ol A' ms' σ' H' ρ' → Tr A A' H H' → D0.bk σ' H'
  | .ct ρ' => ∀ σ' H' A' ms', RelS K G Ol A' ms' σ' H' ρ' → Tr A A' H H' → D0.ct σ' H'
  | .ex x ρ' => ∀ dx σ' H' A' ms' O'', XC O'' → RelS K G O'' A' ms' σ' H' ρ' → Tr A A' H H' → XRel K A' H' x dx → W (.ref (He.ga K x.c)) dx σ' H'
  | .bad => False
def tS (m : MS) : TS := fun D0 σ H => ∃ A ms ρ, RelS K G O A ms σ H ρ ∧ SPost K G XC Ol O' W fr A H D0 (m ρ)
end
def DS (X : Cx) (G : Gd) (XC : List Nat → Prop) (Ol O O' : List Nat) (W : WX) (fr : Bool) (st : Stmt) (m : MS) : Prop := PS X st (tS X.K G XC Ol O O' W fr m)
def DSs (X : Cx) (G : Gd) (XC : List Nat → Prop) (Ol O O' : List Nat) (W : WX) (fr : Bool) (sts : List Stmt) (m : MS) : Prop := PSs X sts (tS X.K G XC Ol O O' W fr m)
theorem Tr.trans {A A1 A2 : Addr → Prop} {H H1 H2 : Hp} (a : Tr A A1 H H1) (b : Tr A1 A2 H1 H2) : Tr A A2 H H2 := fun x o e n => let ⟨e1, n1⟩ := a x o e n; b x o e1 n1
theorem Tr.refl {A : Addr → Prop} {H : Hp} : Tr A A H H := fun _ _ e n => ⟨e, n⟩
theorem SPost.from {K : PySem.W.Frag} {G : Gd} {XC : List Nat → Prop} {Ol O' : List Nat} {W : WX} {fr : Bool} {A A1 : Addr → Prop} {H H1 : Hp} {D0 : Ends} {r : Out} (t : Tr A A1 H H1) (h : SPost K G XC Ol O' W fr A H D0 r) : SPost K G XC Ol O' W fr A1 H1 D0 r := by
  cases r with
  | nx ρ => exact fun σ' H' A' ms' R k => h σ' H' A' ms' R (t.trans k)
  | rt d ρ => exact h
  | bk ρ => exact fun σ' H' A' ms' R k => h σ' H' A' ms' R (t.trans k)
  | ct ρ => exact fun σ' H' A' ms' R k => h σ' H' A' ms' R (t.trans k)
  | ex x ρ => exact fun dx σ' H' A' ms' O'' c R k => h dx σ' H' A' ms' O'' c R (t.trans k)
  | bad => exact h
def pad (n : Nat) (ds : List D) : En := ds.map some ++ List.replicate (n - ds.length) none
def runM (n np : Nat) (dd : List D) (fr : Bool) (m : MS) : FN := fun ds => if (ds ++ dd).length = np then match m (pad n (ds ++ dd)) with
  | .nx ρ => if fr = true then .bad else .rt .non (io0 ρ)
  | .rt d ρ => .rt d (io0 ρ)
  | .ex x ρ => .ex x (io0 ρ)
  | _ => .bad
  else .bad
theorem pad_get {n : Nat} {ds : List D} {i : Nat} {d : D} (h : (pad n ds)[i]? = some (some d)) : ds[i]? = some d := by
  unfold pad at h
  by_cases hi : i < ds.length
  · rw [List.getElem?_append_left (by rw [List.length_map]; exact hi), List.getElem?_map] at h
    cases e : ds[i]? with
    | none => rw [e] at h; cases h
    | some x => rw [e] at h; cases h; rfl
  · rw [List.getElem?_append_right (by rw [List.length_map]; omega), List.getElem?_replicate] at h
    split at h
    · cases h
    · cases h
theorem start_get {N : List Str} {vs : List V} {i : Nat} {v : V} (h : vs[i]? = some v) : (L2.start N vs)[i]? = some (some v) := by
  unfold L2.start
  have hi := (List.getElem?_eq_some_iff.mp h).1
  rw [List.getElem?_append_left (by rw [List.length_map]; exact hi), List.getElem?_map, h]
  rfl
theorem start_rel {K : PySem.W.Frag} {A : Addr → Prop} {H : Hp} {q : Option Addr} {N : List Str} {vs : List V} {ds : List D} {O : List Nat} {np : Nat} (t : Trk A H) (h : ArgR K A H q vs ds) (hn : ds.length = np) (hN : np ≤ N.length)
    (hO : ∀ i, i < np → i ∈ O → i = 0 ∧ q.isSome = true) (hq : q.isSome = true → 0 ∈ O) : RelS K ⟨A, H, q, none⟩ O A (fun i => if i = 0 then q else none) (L2.start N vs) H (pad N.length ds) := by
  have hl : vs.length = ds.length := by
    cases q with
    | none => exact RpA.length h
    | some p =>
      obtain ⟨vs', d, ds', rfl, rfl, _, _, r⟩ := h
      rw [List.length_cons, List.length_cons, r.length]
  have lt : ∀ {i : Nat} {d : D}, (pad N.length ds)[i]? = some (some d) → i < np := fun {i d} e => by
    have := (List.getElem?_eq_some_iff.mp (pad_get e)).1
    omega
  have at0 : ∀ {i : Nat} {p : Addr}, (if i = 0 then q else none) = some p → i = 0 ∧ q = some p := fun {i p} e => by
    by_cases h : i = 0
    · rw [if_pos h] at e; exact ⟨h, e⟩
    · rw [if_neg h] at e; cases e
  refine ⟨fun _ z => z, fun a z => (let ⟨o, e, _⟩ := t a z; ⟨o, e⟩), t, fun _ _ e _ => e, ?_, fun i d e n => ?_, fun i d e m => ?_, fun i p m e => ?_, fun i p m e => .inl (at0 e), fun i j p m m' e e' => (at0 e).1.trans (at0 e').1.symm, fun i a c e => ?_, fun p e => ?_⟩
  all_goals try (cases (show (none : Option (Nat × Addr × Str)) = some (_, _, _) from e); done)
  · unfold L2.start pad
    rw [List.length_append, List.length_append, List.length_map, List.length_map, List.length_replicate, List.length_replicate, hl]
  · have e1 := pad_get e
    cases q with
    | none =>
      obtain ⟨v, h1, h2⟩ := RpA.get h e1
      exact ⟨v, start_get h1, h2⟩
    | some p =>
      obtain ⟨vs', d0, ds', rfl, rfl, _, _, r⟩ := h
      cases i with
      | zero => exact absurd (hq rfl) n
      | succ i =>
        obtain ⟨v, h1, h2⟩ := r.get (i := i) (by simpa using e1)
        exact ⟨v, start_get (by simpa using h1), h2⟩
  · obtain ⟨rfl, z⟩ := hO i (lt e) m
    have e1 := pad_get e
    cases q with
    | none => cases z
    | some p =>
      obtain ⟨vs', d0, ds', rfl, rfl, ap, ow, r⟩ := h
      cases (show some d0 = some d from e1)
      exact ⟨p, rfl, start_get rfl, ow⟩
  · obtain ⟨_, z⟩ := at0 e
    cases q with
    | none => cases z
    | some p' =>
      cases z
      obtain ⟨vs', d0, ds', rfl, rfl, ap, ow, r⟩ := h
      exact ap
  · have e' : q = some p := e
    subst e'
    obtain ⟨vs', d0, ds', rfl, rfl, ap, ow, r⟩ := h
    refine ⟨hq rfl, ap, rfl, d0, ?_⟩
    unfold pad
    rfl
theorem RelS.ki {K : PySem.W.Frag} {G : Gd} {O : List Nat} {A : Addr → Prop} {ms : Nat → Option Addr} {σ : L2.St} {H : Hp} {ρ : En} (R : RelS K G O A ms σ H ρ) : KI G.io G.H0 H := R.keep
theorem RelS.ioOwn {K : PySem.W.Frag} {G : Gd} {O : List Nat} {A : Addr → Prop} {ms : Nat → Option Addr} {σ : L2.St} {H : Hp} {ρ : En} (R : RelS K G O A ms σ H ρ) {p : Addr} (e : G.io = some p) : Own K A H p (io0 ρ) := by
  obtain ⟨h1, h2, h3, d, h4⟩ := R.io p e
  obtain ⟨p', e0, _, w⟩ := R.ow 0 d h4 h1
  rw [h3] at e0
  cases e0
  unfold io0
  rw [h4]
  exact w
theorem Own.less {K : PySem.W.Frag} {A A' : Addr → Prop} {H : Hp} {p : Addr} {d : D} (h : Own K A H p d) (s : ∀ a, A' a → A a) : Own K A' H p d := h.tr (fun a o e n => ⟨e, fun z => n (s a z)⟩) fun _ z => z
theorem Rp.less {K : PySem.W.Frag} {A A' : Addr → Prop} {H : Hp} {v : V} {d : D} (h : Rp K A H v d) (s : ∀ a, A' a → A a) : Rp K A' H v d := h.tr fun a o e n => ⟨e, fun z => n (s a z)⟩
section
variable {P : Program} {w : World} {K : PySem.W.Frag} {mg : Str → Option Value} {base : Heap} {x qual : Str} {params : Arguments} {body : List Stmt} {scope : Scope} {dvs : List V} {kws : List (Str × V)} {f : Addr} {fd : FuncData}
theorem fnG_of {N ps : List Str} {k : Nat} {io fr : Bool} {ds : List Value} {dw : List V} {dd : List D} {O O' : List Nat} {m : MS} (F : FunD K x qual params body scope dvs kws f fd) (S : FnScope N ps scope) (hb : Binds K fd ps ds) (hd : Vals dw ds)
    (rd : ∀ A H, RpA K A H dw dd) (hN : ps.length ≤ N.length) (hO : ∀ i, i < ps.length → i ∈ O → i = 0 ∧ io = true) (hq : io = true → 0 ∈ O)
    (hbody : ∀ (cdv : Value) (A : Around) (outer : List Env) (s : Shared) (H : Hp) (E : XK) (A0 : Addr → Prop) (q : Option Addr), q.isSome = io → Room k (A.deeper (envOfC qual scope s.heap.objs.size f cdv)) → A.guards = some [] →
      DSs (cxOf (L2N.CX P w) P w K mg base N qual scope f cdv A outer s H E) ⟨A0, H, q, none⟩ (fun _ => True) [] O O' (fun cls d _ H' => E cls d H') fr body m) :
    FnG P w K mg base (k + 1) f io fr (runM N.length ps.length dd fr m) := by
  refine ⟨fun A outer s H us vs Q E hr hg e0 rv hsp => ?_, F.kp⟩
  obtain ⟨oc, od, dV, kV, doc, pm, an, cdv, ct, osl, rfl, lk, hcd, _, _⟩ := F.ex
  obtain ⟨A0, q, args, trk, hio, ar, post⟩ := hsp
  have KXh : K.In s.heap := e0.mod.kin.keeps fun b o e => (e0.bs b o e).1
  have limit : s.heap.NoLimit := e0.mod.nolimit.keeps fun b o e => (e0.bs b o e).1
  have ar2 : ArgR K A0 H q (vs ++ dw) (args ++ dd) := by
    cases q with
    | none => exact RpA.app ar (rd _ _)
    | some p =>
      obtain ⟨vs', d0, ds', rfl, rfl, ap, ow, r⟩ := ar
      exact ⟨_, _, _, rfl, rfl, ap, ow, r.app (rd _ _)⟩
  have alen : (vs ++ dw).length = (args ++ dd).length := by
    cases q with
    | none => exact RpA.length ar2
    | some p =>
      obtain ⟨vs', d0, ds', e1, e2, _, _, r⟩ := ar2
      rw [e1, e2, List.length_cons, List.length_cons, r.length]
  unfold runM at post
  by_cases hnp : (args ++ dd).length = ps.length
  · rw [if_pos hnp] at post
    have rv2 : Vals (vs ++ dw) (us ++ ds) := rv.append hd
    have hul : (us ++ ds).length = ps.length := by rw [← rv2.length, alen]; exact hnp
    have hvl : (vs ++ dw).length = ps.length := by rw [alen]; exact hnp
    have kinds : ∀ y ∈ ps.zip (us ++ ds), scope.names.lookup y.1 = some .local ∨ (scope.names.lookup y.1 = some .cell ∧ ((cellsFrom (s.heap.objs.size + 1) scope.names []).lookup y.1).isSome = true) := fun ⟨n, v⟩ hy => by
      rcases S.par n (List.of_mem_zip hy).1 with z | z
      · exact .inl z
      · exact .inr ⟨z, PySem.W.cellsFrom_some _ _ _ (.inl z)⟩
    refine codeAny_call_function hr.depth (KXh _ _ lk) rfl S.co S.gen rfl (PySem.W.codeRec_of KXh hcd) (hb s us KXh hul _ _ _ _ ?_)
    refine wpAny_newFunctionEnv_cells S.kind kinds fun env henv s1 made => ?_
    subst henv
    refine ⟨limit.keeps made.toInCall.keep, codeAny_func ?_⟩
    have I : Inv (cxOf (L2N.CX P w) P w K mg base N qual scope f cdv A outer s H E) [] (L2.start N (vs ++ dw)) H s1 := inv_start S hr.hd e0 hvl rv2 made
    have R := start_rel (N := N) (O := O) (np := ps.length) trk ar2 hnp hN (fun i h1 h2 => by rw [hio]; exact hO i h1 h2) (fun z => hq (by rw [← hio]; exact z))
    have body := hbody cdv A outer s H E A0 q hio (hr.deeper _) hg
    have goal : tS K ⟨A0, H, q, none⟩ (fun _ => True) [] O O' (fun cls d _ H' => E cls d H') fr m { nx := fun _ H' => Q .non H', rt := Q } (L2.start N (vs ++ dw)) H := by
      refine ⟨A0, _, _, R, ?_⟩
      cases hm : m (pad N.length (args ++ dd)) with
      | bad => rw [hm] at post; exact post.elim
      | bk ρ => rw [hm] at post; exact post.elim
      | ct ρ => rw [hm] at post; exact post.elim
      | rt d ρ =>
        rw [hm] at post
        exact fun v H' rg => post v H' rg.1 rg.2
      | nx ρ =>
        rw [hm] at post
        cases fr with
        | true => exact post.elim
        | false => exact fun σ' H' A' ms' R' _ => post .non H' R'.ki ⟨.non, fun p e => (R'.ioOwn e).less R'.sub⟩
      | ex y ρ =>
        rw [hm] at post
        refine fun dx σ' H' A' ms' O'' _ R' _ xr => post dx H' R'.ki (fun p e => (R'.ioOwn e).less R'.sub) ?_
        rcases xr with z | ⟨ne, d, fs, e1, e2, r⟩
        · exact .inl z
        · exact .inr ⟨ne, d, fs, e1, e2, r.tr fun a o e n => ⟨e, fun z => n (R'.sub a z)⟩⟩
    refine wpAny_mono (body.run [] s1 (L2.start N (vs ++ dw)) H _ I goal) (fun fl s' hs => ?_) fun e s' hs => hs
    have done : ∀ {σ' : L2.St} {H' : Hp} {v : V} {u : Value}, Inv (cxOf (L2N.CX P w) P w K mg base N qual scope f cdv A outer s H E) [] σ' H' s' → RelV v u → Q v H' → CE outer P w H s Q u s' :=
      fun {σ' H' v u} J rv q => ⟨v, H', J.os, J.bare, J.base, J.hok, rv, q⟩
    cases fl with
    | ret u =>
      obtain ⟨v, σ', H', J, rv, qq⟩ := hs
      exact done J rv qq
    | next =>
      obtain ⟨σ', H', J, qq⟩ := hs
      exact done (v := V.non) (u := Value.none) J rfl qq
    | brk =>
      obtain ⟨_, _, _, qq⟩ := hs
      exact qq.elim
    | cont =>
      obtain ⟨_, _, _, qq⟩ := hs
      exact qq.elim
  · rw [if_neg hnp] at post
    exact post.elim
end
section
variable {X : Cx} {G : Gd} {O : List Nat} {W : WX} {k : Nat} {f : Addr} {io fr : Bool} {F : FN} {x : Str} {p pos : Pos} {e : Expr} {es : List Expr} {mr : MA}
theorem run_fnG {pins : List (Addr × Obj)} {σ : L2.St} {H : Hp} {s : Shared} {Q : VK} {us : List Value} {vs : List V} (C : FnG X.prog X.w X.K X.mg X.base k f io fr F) (hr : Room k X.A) (hg : X.A.guards = some []) (tk : L2N.Takes X W)
    (I : Inv X pins σ H s) (r : Vals vs us) (h : spD X.K io fr F vs H Q (WE W σ)) : wpAny (model X.prog X.w) X.A (call (.ref f) us) (EP X pins σ Q) X.xe s := by
  refine wpAny_call (codeAny_mono (C.run X.A X.stack s H us vs Q (WE W σ) hr hg I.env0 r h) fun res s' hres => ?_)
  cases res with
  | error e => exact L2N.passAt tk σ pins H s e s' I hres
  | ok fl =>
    cases fl with
    | ret u => exact I.after hres
    | next => exact hres.elim
    | brk => exact hres.elim
    | cont => exact hres.elim
def tCallG (K : PySem.W.Frag) (io fr : Bool) (F : FN) (W : WX) (t : TA) : TE := fun σ H Q => t σ H fun vs H1 => spD K io fr F vs H1 Q (WE W σ)
theorem pe_callG {t : TA} (C : FnG X.prog X.w X.K X.mg X.base k f io fr F) (hr : Room k X.A) (hg : X.A.guards = some []) (tk : L2N.Takes X W) (hn : Gl X x) (hm : X.mg x = some (.ref f)) (ha : PA X (e :: es) t)
    (hdb : (x == ("__debug__" : Str)) = false := by decide) (he : starEach (e :: es) X.env = (false, eval e X.env) :: starEach es X.env := by rfl) (hpl : (backTo pos (starEach es X.env)).any (·.1) = false := by rfl) :
    PE X (.Call (.Name x p) (e :: es) [] pos) (tCallG X.K io fr F W t) := by
  refine ⟨fun pins s σ H Q I h => wpAny_Call_Name_kw (ld_glob I hn hm ?_ hdb)⟩
  exact PySem.W.callWith_K (h₀ := X.base) I.ok.mod.kin C.kp (thn (ha.run pos pins s σ H _ I h) fun us s1 ⟨vs, H1, I1, r, q⟩ => ⟨I1.kIn, run_fnG C hr hg tk I1 r q⟩) he hpl
def mCall (F : FN) (args : MA) : ME := fun ρ => (args ρ).bind fun ds ρ1 => match F ds with
  | .rt d _ => .ok d ρ1
  | .ex x _ => .ex x ρ1
  | .bad => .bad
theorem call_goE {K : PySem.W.Frag} {σ : L2.St} {H : Hp} {Q : VK} (h : tE K G O W (mCall F mr) σ H Q) : tCallG K false false F W (tA K G O W mr) σ H Q := by
  obtain ⟨A, ms, ρ, R, q⟩ := h
  refine ⟨A, ms, ρ, R, q.bind.mono ?_⟩
  rintro vs H1 ⟨ds, ρ1, R1, k1, r1, q1⟩
  refine ⟨A, none, ds, R1.trk, rfl, r1, ?_⟩
  cases hF : F ds with
  | bad => rw [hF] at q1; exact q1.elim
  | rt d o =>
    rw [hF] at q1
    intro v H' ki ⟨rr, _⟩
    have s : Same H1 H' := fun a o e => ki a o e (by simp)
    exact q1 v H' (R1.same s) (Kp.same s) rr
  | ex y o =>
    rw [hF] at q1
    intro dx H' ki _ xr
    have s : Same H1 H' := fun a o e => ki a o e (by simp)
    exact q1 dx H' (R1.same s) (Kp.same s) xr
theorem call_goF {K : PySem.W.Frag} {σ : L2.St} {H : Hp} {Q : VK} (h : tF K G O W (mCall F mr) σ H Q) : tCallG K false true F W (tA K G O W mr) σ H Q := by
  obtain ⟨A, ms, ρ, R, q⟩ := h
  refine ⟨A, ms, ρ, R, ?_⟩
  unfold mCall at q
  cases hm : mr ρ with
  | bad => rw [hm] at q; exact q.elim
  | ex x ρ1 => rw [hm] at q; exact q
  | ok ds ρ1 =>
    rw [hm] at q
    intro vs H1 R1 k1 r1
    refine ⟨A, none, ds, R1.trk, rfl, r1, ?_⟩
    have q1 : FPost K G O W A ms σ H Q (match F ds with
      | .rt d _ => .ok d ρ1
      | .ex x _ => .ex x ρ1
      | .bad => .bad) := q
    cases hF : F ds with
    | bad => rw [hF] at q1; exact q1.elim
    | rt d o =>
      rw [hF] at q1
      intro v H' ki rr
      have s : Same H1 H' := fun a o e => ki a o e (by simp)
      obtain ⟨r, rfl, hr, ow, _⟩ := (show ∃ r, v = .ref r ∧ H1 r = none ∧ Own K (fun a => A a ∨ a = r) H' r d ∧ _ from rr)
      obtain ⟨o', ho', nt'⟩ := ow.there'
      refine q1 r H' (R1.same s) (R1.grow hr s ho' nt') (k1.trans (Kp.same s)) ?_ ow
      exact Kp.none R1 k1 hr
    | ex y o =>
      rw [hF] at q1
      intro dx H' ki _ xr
      have s : Same H1 H' := fun a o e => ki a o e (by simp)
      exact q1 dx H' (R1.same s) (k1.trans (Kp.same s)) xr
theorem de_call (C : FnG X.prog X.w X.K X.mg X.base k f false false F) (hr : Room k X.A) (hg : X.A.guards = some []) (tk : L2N.Takes X W) (hn : Gl X x) (hm : X.mg x = some (.ref f)) (ha : DA X G O W (e :: es) mr)
    (hdb : (x == ("__debug__" : Str)) = false := by decide) (he : starEach (e :: es) X.env = (false, eval e X.env) :: starEach es X.env := by rfl) (hpl : (backTo pos (starEach es X.env)).any (·.1) = false := by rfl) :
    DE X G O W (.Call (.Name x p) (e :: es) [] pos) (mCall F mr) := pe_imp (pe_callG C hr hg tk hn hm ha hdb he hpl) fun _ _ _ h => call_goE h
theorem df_call (C : FnG X.prog X.w X.K X.mg X.base k f false true F) (hr : Room k X.A) (hg : X.A.guards = some []) (tk : L2N.Takes X W) (hn : Gl X x) (hm : X.mg x = some (.ref f)) (ha : DA X G O W (e :: es) mr)
    (hdb : (x == ("__debug__" : Str)) = false := by decide) (he : starEach (e :: es) X.env = (false, eval e X.env) :: starEach es X.env := by rfl) (hpl : (backTo pos (starEach es X.env)).any (·.1) = false := by rfl) :
    DF X G O W (.Call (.Name x p) (e :: es) [] pos) (mCall F mr) := pe_imp (pe_callG C hr hg tk hn hm ha hdb he hpl) fun _ _ _ h => call_goF h
theorem tNil_go {K : PySem.W.Frag} {σ : L2.St} {H : Hp} {Q : List V → Hp → Prop} (h : tA K G O W mNil σ H Q) : tNil σ H Q := by
  obtain ⟨A, ms, ρ, R, q⟩ := h
  exact q [] H R Kp.refl .nil
end
end DL
namespace DL
open L2 PySem PySem.Spec PyProof.Rows
theorem set_get_ne {ρ : En} {i j : Nat} {o : Option D} (h : i ≠ j) : (ρ.set j o)[i]? = ρ[i]? := List.getElem?_set_ne (Ne.symm h)
theorem RelS.setOwn {K : PySem.W.Frag} {G : Gd} {O : List Nat} {A : Addr → Prop} {ms : Nat → Option Addr} {σ : L2.St} {H H' : Hp} {ρ : En} {j : Nat} {p : Addr} {c d : D} (R : RelS K G O A ms σ H ρ) (hj : j ∈ O) (hc : ρ[j]? = some (some c)) (hp : ms j = some p)
    (k : ∀ a o, H a = some o → a ≠ p → H' a = some o) (ow : Own K A H' p d) : RelS K G O A ms σ H' (ρ.set j (some d)) := by
  have hlt : j < ρ.length := (List.getElem?_eq_some_iff.mp hc).1
  have aj : A p := R.inA j p hj hp
  have t : Tr A A H H' := fun a o e n => ⟨k a o e fun z => n (z ▸ aj), n⟩
  exact {
    sub := R.sub
    trk0 := R.trk0
    trk := fun a z => by
      by_cases h : a = p
      · rw [h]; exact ow.there'
      · obtain ⟨o, e, n⟩ := R.trk a z
        exact ⟨o, k a o e h, n⟩
    keep := fun a o e n => by
      refine k a o (R.keep a o e n) fun z => ?_
      rcases R.ok j p hj hp with ⟨_, w⟩ | ⟨_, w⟩
      · exact n (z ▸ w)
      · rw [z, w] at e; cases e
    len := by rw [List.length_set]; exact R.len
    fz := fun i z e n => by
      have h : i ≠ j := fun q => n (q ▸ hj)
      rw [set_get_ne h] at e
      obtain ⟨v, e1, q⟩ := R.fz i z e n
      exact ⟨v, e1, q.tr t⟩
    ow := fun i z e m => by
      by_cases h : i = j
      · subst h
        rw [List.getElem?_set_self hlt] at e
        cases e
        obtain ⟨p', e0, e1, _⟩ := R.ow i c hc hj
        rw [hp] at e0
        cases e0
        exact ⟨p, hp, e1, ow⟩
      · rw [set_get_ne h] at e
        obtain ⟨q, e0, e1, w⟩ := R.ow i z e m
        exact ⟨q, e0, e1, w.tr t fun o u => k _ _ u fun z => h (R.dist i j p m hj (z ▸ e0) hp)⟩
    inA := R.inA
    ok := R.ok
    dist := R.dist
    px := R.px
    io := fun q e => by
      obtain ⟨h1, h2, h3, z, h4⟩ := R.io q e
      by_cases h : j = 0
      · subst h
        exact ⟨h1, h2, h3, d, List.getElem?_set_self hlt⟩
      · exact ⟨h1, h2, h3, z, by rw [set_get_ne (Ne.symm h)]; exact h4⟩ }
theorem Kp.own {O : List Nat} {ms : Nat → Option Addr} {j : Nat} {p : Addr} {H H' : Hp} (m : j ∈ O) (e : ms j = some p) (k : ∀ b o, H b = some o → b ≠ p → H' b = some o) : Kp O ms H H' := fun b o h n => k b o h fun z => n j m (z ▸ e)
section
variable {X : Cx} {G : Gd} {O : List Nat} {W : WX} {k : Nat} {f : Addr} {fr : Bool} {F : FN} {x y : Str} {p py pos : Pos} {e : Expr} {es : List Expr} {mr : MA}
def getO (ρ : En) (j : Nat) : Option D := match ρ[j]? with
  | some (some d) => some d
  | _ => none
theorem getO_some {ρ : En} {j : Nat} {d : D} (h : getO ρ j = some d) : ρ[j]? = some (some d) := by
  unfold getO at h
  split at h
  · rename_i z hz
    cases h
    exact hz
  · cases h
def mCallIo (F : FN) (j : Nat) (args : MA) : ME := fun ρ => match getO ρ j with
  | none => .bad
  | some _ => (args ρ).bind fun ds ρ1 => match getO ρ1 j with
    | none => .bad
    | some c => match F (c :: ds) with
      | .rt d o => .ok d (ρ1.set j (some o))
      | .ex x o => .ex x (ρ1.set j (some o))
      | .bad => .bad
theorem callio_go {K : PySem.W.Frag} {j : Nat} (hj : j ∈ O) {σ : L2.St} {H : Hp} {Q : VK} (h : tE K G O W (mCallIo F j mr) σ H Q) : tCallG K true false F W (tCons (tVar j) (tA K G O W mr)) σ H Q := by
  obtain ⟨A, ms, ρ, R, q⟩ := h
  unfold mCallIo at q
  cases hc : getO ρ j with
  | none => rw [hc] at q; exact q.elim
  | some c =>
    rw [hc] at q
    have q' : RPost K G O W A ms σ H (Rp K A) Q ((mr ρ).bind fun ds ρ1 => match getO ρ1 j with
      | none => .bad
      | some c => match F (c :: ds) with
        | .rt d o => .ok d (ρ1.set j (some o))
        | .ex x o => .ex x (ρ1.set j (some o))
        | .bad => .bad) := q
    obtain ⟨p, hp, hv, _⟩ := R.ow j c (getO_some hc) hj
    refine ⟨.ref p, hv, A, ms, ρ, R, q'.bind.mono ?_⟩
    rintro vs H1 ⟨ds, ρ1, R1, k1, r1, q1⟩
    cases hc1 : getO ρ1 j with
    | none => rw [hc1] at q1; exact q1.elim
    | some c1 =>
      rw [hc1] at q1
      have b1 := getO_some hc1
      obtain ⟨p', hp', _, oj⟩ := R1.ow j c1 b1 hj
      rw [hp] at hp'
      cases hp'
      refine ⟨A, some p, c1 :: ds, R1.trk, rfl, ⟨vs, c1, ds, rfl, rfl, R.inA j p hj hp, oj, r1⟩, ?_⟩
      have q2 : RPost K G O W A ms σ H1 (Rp K A) Q (match F (c1 :: ds) with
        | .rt d o => .ok d (ρ1.set j (some o))
        | .ex x o => .ex x (ρ1.set j (some o))
        | .bad => .bad) := q1
      cases hF : F (c1 :: ds) with
      | bad => rw [hF] at q2; exact q2.elim
      | rt d o =>
        rw [hF] at q2
        intro v H' ki ⟨rr, oo⟩
        have kk : ∀ a u, H1 a = some u → a ≠ p → H' a = some u := fun a u e n => ki a u e fun z => n (Option.some.inj z).symm
        exact q2 v H' (R1.setOwn hj b1 hp kk (oo _ rfl)) (Kp.own hj hp kk) rr
      | ex z o =>
        rw [hF] at q2
        intro dx H' ki oo xr
        have kk : ∀ a u, H1 a = some u → a ≠ p → H' a = some u := fun a u e n => ki a u e fun z => n (Option.some.inj z).symm
        exact q2 dx H' (R1.setOwn hj b1 hp kk (oo _ rfl)) (Kp.own hj hp kk) xr
theorem de_callio {j : Nat} (C : FnG X.prog X.w X.K X.mg X.base k f true false F) (hr : Room k X.A) (hg : X.A.guards = some []) (tk : L2N.Takes X W) (hn : Gl X x) (hm : X.mg x = some (.ref f)) (hj : O.contains j = true) (hy : PE X (.Name y py) (tVar j)) (ha : DA X G O W es mr)
    (hs : starEach (.Name y py :: es) X.env = (false, eval (.Name y py) X.env) :: starEach es X.env := by rfl)
    (hdb : (x == ("__debug__" : Str)) = false := by decide) (hpl : (backTo pos (starEach es X.env)).any (·.1) = false := by rfl) :
    DE X G O W (.Call (.Name x p) (.Name y py :: es) [] pos) (mCallIo F j mr) :=
  pe_imp (pe_callG C hr hg tk hn hm (pa_cons hy ha hs) hdb hs hpl) fun _ _ _ h => callio_go (List.contains_iff_mem.mp hj) h
def rOM (K : PySem.W.Frag) (g : List D → List D → Option (D × List D)) : V → List V → Hp → VK → Prop := fun x vs H Q => ∃ (A : Addr → Prop) (p : Addr) (cs ds : List D) (ws : List V) (z : D) (cs' : List D), x = .ref p ∧ A p ∧ Trk A H ∧ H p = some (.lst ws) ∧ RpA K A H ws cs ∧ RpA K A H vs ds ∧
  g cs ds = some (z, cs') ∧ ∀ v H', (∀ a o, H a = some o → a ≠ p → H' a = some o) → (∃ ws', H' p = some (.lst ws') ∧ RpA K A H' ws' cs') → Rp K A H' v z → Q v H'
def mOM (g : List D → List D → Option (D × List D)) (j : Nat) (args : MA) : ME := fun ρ => match getO ρ j with
  | some (.lst _) => (args ρ).bind fun ds ρ1 => match getO ρ1 j with
    | some (.lst cs) => match g cs ds with
      | some (z, cs') => .ok z (ρ1.set j (some (.lst cs')))
      | none => .bad
    | _ => .bad
  | _ => .bad
theorem own_lst {K : PySem.W.Frag} {A : Addr → Prop} {H : Hp} {p : Addr} {cs : List D} (h : Own K A H p (.lst cs)) : ∃ ws, H p = some (.lst ws) ∧ RpA K A H ws cs := by
  cases h with
  | lst e q => exact ⟨_, e, q⟩
theorem om_go {g : List D → List D → Option (D × List D)} {r : V → List V → Hp → VK → Prop} {K : PySem.W.Frag} (hr : ∀ x vs H Q, rOM K g x vs H Q → r x vs H Q) {j : Nat} (hj : j ∈ O) {σ : L2.St} {H : Hp} {Q : VK} (h : tE K G O W (mOM g j mr) σ H Q) :
    ∃ v, σ[j]? = some (some v) ∧ tyV K "list" v H ∧ tA K G O W mr σ H fun xs H2 => r v xs H2 Q := by
  obtain ⟨A, ms, ρ, R, q⟩ := h
  unfold mOM at q
  split at q
  · rename_i c hc
    obtain ⟨p, hp, e1, oj⟩ := R.ow j _ (getO_some hc) hj
    obtain ⟨ws, hw, _⟩ := own_lst oj
    refine ⟨_, e1, .inl ⟨rfl, _, SqL.of hw⟩, A, ms, ρ, R, RPost.mono (RPost.bind q) ?_⟩
    rintro vs H1 ⟨ds, ρ1, R1, k1, r1, q1⟩
    split at q1
    · rename_i cs hc1
      have b1 := getO_some hc1
      obtain ⟨p', hp', _, oj1⟩ := R1.ow j _ b1 hj
      rw [hp] at hp'
      cases hp'
      obtain ⟨ws1, hw1, rw1⟩ := own_lst oj1
      split at q1
      · rename_i z cs' hg
        refine hr _ _ _ _ ⟨A, p, cs, ds, ws1, z, cs', rfl, R.inA j p hj hp, R1.trk, hw1, rw1, r1, hg, fun v H' kk ⟨ws', hw', rw'⟩ rv => ?_⟩
        exact q1 v H' (R1.setOwn hj b1 hp kk (.lst hw' rw')) (Kp.own hj hp kk) rv
      · exact q1.elim
    · exact q1.elim
  · exact q.elim
theorem de_om {j : Nat} {name : Str} {id : String} {apos cpos : Pos} {g : List D → List D → Option (D × List D)} (hm : MtR X id (rOM X.K g)) (slot : Slot "list" name id) (hty : typeOf (.builtin id) = pure (.type "method_descriptor")) (hj : O.contains j = true) (hy : PE X (.Name y py) (tVar j)) (ha : DA X G O W (e :: es) mr)
    (hbase : attributeBase (.Name y py) name X.env (eval (.Name y py) X.env) = eval (.Name y py) X.env := by rfl)
    (hfew : ((backTo cpos (starEach (e :: es) X.env)).all (fun x => !x.1) && (backToKw cpos (keywordEach [] X.env)).all (fun x => x.1.isSome)
      && decide ((e :: es).length + ([] : List Keyword).length + (if ([] : List Keyword).isEmpty then 0 else 1) < 30)) = true := by rfl)
    (hline : (apos.endLine == cpos.line) = true := by rfl) (hs : starEach (e :: es) X.env = (false, eval e X.env) :: starEach es X.env := by rfl) (hplain : (backTo cpos (starEach es X.env)).any (·.1) = false := by rfl) :
    DE X G O W (.Call (.Attribute (.Name y py) name apos) (e :: es) [] cpos) (mOM g j mr) :=
  pe_imp (pe_bm PySem.F.plainAttrs_list slot hty hm hy ha hbase hfew hline hs hplain) fun _ _ _ h => om_go (fun _ _ _ _ z => z) (List.contains_iff_mem.mp hj) h
theorem de_om0 {j : Nat} {name : Str} {id : String} {apos cpos : Pos} {g : List D → List D → Option (D × List D)} (hm : MtR X id (rOM X.K g)) (slot : Slot "list" name id) (hty : typeOf (.builtin id) = pure (.type "method_descriptor")) (hj : O.contains j = true) (hy : PE X (.Name y py) (tVar j))
    (hbase : attributeBase (.Name y py) name X.env (eval (.Name y py) X.env) = eval (.Name y py) X.env := by rfl) (hline : (apos.endLine == cpos.line) = true := by rfl) :
    DE X G O W (.Call (.Attribute (.Name y py) name apos) [] [] cpos) (mOM g j mNil) := by
  refine pe_imp (pe_bm0 PySem.F.plainAttrs_list slot hty hm hy hbase hline) fun σ H Q h => ?_
  obtain ⟨v, h1, h2, h3⟩ := om_go (fun _ _ _ _ z => z) (List.contains_iff_mem.mp hj) h
  exact ⟨v, h1, h2, tNil_go h3⟩
def gAppend (cs ds : List D) : Option (D × List D) := match ds with
  | [d] => if cs.length < sizeLine then some (.non, cs ++ [d]) else none
  | _ => none
def gExtend (cs ds : List D) : Option (D × List D) := match ds with
  | [.lst es] => if cs.length + es.length ≤ sizeLine then some (.non, cs ++ es) else none
  | _ => none
def gPop (cs ds : List D) : Option (D × List D) := match ds with
  | [] => (cs[cs.length - 1]?).map fun z => (z, cs.dropLast)
  | [.int i] => if -(2 ^ 63) ≤ i ∧ i < 2 ^ 63 then (seqIndex? i cs.length).bind fun k => (cs[k]?).map fun z => (z, cs.eraseIdx k) else none
  | _ => none
def gReverse (cs ds : List D) : Option (D × List D) := match ds with
  | [] => some (.non, cs.reverse)
  | _ => none
theorem upd_out {H : Hp} {p : Addr} {o : HO} : ∀ a u, H a = some u → a ≠ p → (upd H p o) a = some u := fun a u e n => by rw [upd_ne n]; exact e
theorem RpA.upd {K : PySem.W.Frag} {A : Addr → Prop} {H : Hp} {p : Addr} {o : HO} {vs : List V} {ds : List D} (h : RpA K A H vs ds) (a : A p) : RpA K A (L2.upd H p o) vs ds := h.tr fun b o e n => ⟨upd_out b o e fun z => n (z ▸ a), n⟩
theorem Rp.upd {K : PySem.W.Frag} {A : Addr → Prop} {H : Hp} {p : Addr} {o : HO} {v : V} {d : D} (h : Rp K A H v d) (a : A p) : Rp K A (L2.upd H p o) v d := h.tr fun b o e n => ⟨upd_out b o e fun z => n (z ▸ a), n⟩
theorem om_append : MtR X "list.append" (rOM X.K gAppend) := by
  rintro pins s σ H x vs v us Q I rx rv ⟨A, p, cs, ds, ws, z, cs', rfl, ap, t, hp, rc, rd, hg, q⟩
  unfold gAppend at hg
  split at hg
  · rename_i d
    split at hg
    · rename_i hz
      cases hg
      cases rd with
      | cons r1 r2 =>
        cases r2
        refine mt_append pins s σ H _ _ v us Q I rx rv ⟨p, ws, _, rfl, rfl, hp, by rw [rc.length]; exact hz, ?_⟩
        exact q _ _ upd_out ⟨_, upd_same, (rc.upd ap).app (.cons (r1.upd ap) .nil)⟩ .non
    · cases hg
  · cases hg
theorem om_extend : MtR X "list.extend" (rOM X.K gExtend) := by
  rintro pins s σ H x vs v us Q I rx rv ⟨A, p, cs, ds, ws, z, cs', rfl, ap, t, hp, rc, rd, hg, q⟩
  unfold gExtend at hg
  split at hg
  · split at hg
    · rename_i hz
      cases hg
      cases rd with
      | cons r1 r2 =>
        cases r2
        cases r1 with
        | lst hb nb rb =>
          refine mt_extend pins s σ H _ _ v us Q I rx rv ⟨p, _, ws, _, rfl, rfl, hp, hb, by rw [rc.length, rb.length]; exact hz, ?_⟩
          exact q _ _ upd_out ⟨_, upd_same, (rc.upd ap).app (rb.upd ap)⟩ .non
    · cases hg
  · cases hg
theorem RpA.eraseIdx {K : PySem.W.Frag} {A : Addr → Prop} {H : Hp} : ∀ {vs : List V} {ds : List D} (n : Nat), RpA K A H vs ds → RpA K A H (vs.eraseIdx n) (ds.eraseIdx n)
  | _, _, _, .nil => .nil
  | _, _, 0, .cons _ t => t
  | _, _, n + 1, .cons h t => .cons h (RpA.eraseIdx n t)
theorem om_pop : MtR X "list.pop" (rOM X.K gPop) := by
  rintro pins s σ H x vs v us Q I rx rv ⟨A, p, cs, ds, ws, z, cs', rfl, ap, t, hp, rc, rd, hg, q⟩
  unfold gPop at hg
  split at hg
  · cases rd
    obtain ⟨y, hy, e⟩ := map_some hg
    cases e
    have hl := rc.length
    obtain ⟨w, hw, rw⟩ := rc.get hy
    refine mt_pop pins s σ H _ _ v us Q I rx rv ⟨p, ws, w, rfl, rfl, hp, by rw [hl]; exact hw, ?_⟩
    exact q _ _ upd_out ⟨_, upd_same, rc.dropLast.upd ap⟩ (rw.upd ap)
  · rename_i i
    split at hg
    · rename_i hz
      cases hk : seqIndex? i cs.length with
      | none => rw [hk] at hg; cases hg
      | some k =>
        rw [hk] at hg
        obtain ⟨y, hy, e⟩ := map_some (show (cs[k]?).map (fun z => (z, cs.eraseIdx k)) = some (z, cs') from hg)
        cases e
        cases rd with
        | cons r1 r2 =>
          cases r2
          cases r1
          obtain ⟨w, hw, rw⟩ := rc.get hy
          refine mt_popAt pins s σ H _ _ v us Q I rx rv ⟨p, ws, i, k, w, rfl, rfl, hp, hz.1, hz.2, by rw [rc.length]; exact hk, hw, ?_⟩
          exact q _ _ upd_out ⟨_, upd_same, (rc.eraseIdx k).upd ap⟩ (rw.upd ap)
    · cases hg
  · cases hg
theorem om_reverse : MtR X "list.reverse" (rOM X.K gReverse) := by
  rintro pins s σ H x vs v us Q I rx rv ⟨A, p, cs, ds, ws, z, cs', rfl, ap, t, hp, rc, rd, hg, q⟩
  unfold gReverse at hg
  split at hg
  · cases hg
    cases rd
    refine mt_reverse pins s σ H _ _ v us Q I rx rv ⟨p, ws, rfl, rfl, hp, ?_⟩
    exact q _ _ upd_out ⟨_, upd_same, rc.rev.upd ap⟩ .non
  · cases hg
end
abbrev MG := D → En → R Unit
def SlEq (vs : List Nat) (σ σ' : L2.St) : Prop := σ'.length = σ.length ∧ ∀ i, i ∉ vs → σ'[i]? = σ[i]?
theorem SlEq.refl {vs : List Nat} {σ : L2.St} : SlEq vs σ σ := ⟨rfl, fun _ _ => rfl⟩
theorem SlEq.trans {vs : List Nat} {σ σ1 σ2 : L2.St} (a : SlEq vs σ σ1) (b : SlEq vs σ1 σ2) : SlEq vs σ σ2 := ⟨b.1.trans a.1, fun i h => (b.2 i h).trans (a.2 i h)⟩
theorem SlEq.mono {vs ws : List Nat} {σ σ' : L2.St} (a : SlEq vs σ σ') (h : ∀ i ∈ vs, i ∈ ws) : SlEq ws σ σ' := ⟨a.1, fun i n => a.2 i fun m => n (h i m)⟩
theorem SlEq.set {vs : List Nat} {σ : L2.St} {i : Nat} {o : Option V} (h : i ∈ vs) : SlEq vs σ (σ.set i o) := ⟨List.length_set, fun j n => List.getElem?_set_ne fun e => n (by rw [← e]; exact h)⟩
def GPost (K : PySem.W.Frag) (G : Gd) (O : List Nat) (vs : List Nat) (A : Addr → Prop) (ms : Nat → Option Addr) (σ : L2.St) (H : Hp) (Q : L2.St → Hp → Prop) : R Unit → Prop
  | .ok _ ρ' => ∀ σ' H', SlEq vs σ σ' → RelS K G O A ms σ' H' ρ' → Kp O ms H H' → Q σ' H'
  | _ => False
def tG (K : PySem.W.Frag) (G : Gd) (O : List Nat) (vs : List Nat) (g : MG) : TG := fun v σ H Q => ∃ A ms ρ d, RelS K G O A ms σ H ρ ∧ Rp K A H v d ∧ GPost K G O vs A ms σ H Q (g d ρ)
def tGs (K : PySem.W.Frag) (G : Gd) (O : List Nat) (vs : List Nat) (g : List D → En → R Unit) : TGs := fun us σ H Q => ∃ A ms ρ ds, RelS K G O A ms σ H ρ ∧ RpA K A H us ds ∧ GPost K G O vs A ms σ H Q (g ds ρ)
def DG (X : Cx) (G : Gd) (O : List Nat) (vs : List Nat) (tg : Expr) (g : MG) : Prop := PG X tg (tG X.K G O vs g)
def DGs (X : Cx) (G : Gd) (O : List Nat) (vs : List Nat) (ts : List Expr) (g : List D → En → R Unit) : Prop := PGs X ts (tGs X.K G O vs g)
theorem pg_imp {X : Cx} {e : Expr} {t t' : TG} (h : PG X e t) (w : ∀ v σ H Q, t' v σ H Q → t v σ H Q) : PG X e t' := ⟨fun pins s σ H v u Q I r q => h.run pins s σ H v u Q I r (w v σ H Q q)⟩
theorem pgs_imp {X : Cx} {e : List Expr} {t t' : TGs} (h : PGs X e t) (w : ∀ v σ H Q, t' v σ H Q → t v σ H Q) : PGs X e t' := ⟨fun pins s σ H v u Q I r q => h.run pins s σ H v u Q I r (w v σ H Q q)⟩
theorem GPost.from {K : PySem.W.Frag} {G : Gd} {O : List Nat} {vs : List Nat} {A : Addr → Prop} {ms : Nat → Option Addr} {σ σ1 : L2.St} {H H1 : Hp} {Q : L2.St → Hp → Prop} {r : R Unit} (e : SlEq vs σ σ1) (k : Kp O ms H H1) (h : GPost K G O vs A ms σ H Q r) : GPost K G O vs A ms σ1 H1 Q r := by
  cases r with
  | ok u ρ => exact fun σ' H' e' R k' => h σ' H' (e.trans e') R (k.trans k')
  | ex _ _ => exact h
  | bad => exact h
theorem RelS.put {K : PySem.W.Frag} {G : Gd} {O : List Nat} {A : Addr → Prop} {ms : Nat → Option Addr} {σ : L2.St} {H : Hp} {ρ : En} {i : Nat} {v : V} {d : D} (R : RelS K G O A ms σ H ρ) (hi : i ∉ O) (hlt : i < ρ.length) (r : Rp K A H v d) : RelS K G O A ms (σ.set i (some v)) H (ρ.set i (some d)) := by
  have ne : ∀ {j : Nat}, j ∈ O → j ≠ i := fun {j} m z => hi (z ▸ m)
  have g : ∀ {j : Nat} {z : D}, j ∈ O → (ρ.set i (some d))[j]? = some (some z) → ρ[j]? = some (some z) := fun {j z} m e => by rw [set_get_ne (ne m)] at e; exact e
  exact {
    sub := R.sub
    trk0 := R.trk0
    trk := R.trk
    keep := R.keep
    len := by rw [List.length_set, List.length_set]; exact R.len
    fz := fun j z e n => by
      by_cases h : j = i
      · subst h
        rw [List.getElem?_set_self hlt] at e
        cases e
        exact ⟨v, List.getElem?_set_self (by rw [R.len]; exact hlt), r⟩
      · rw [set_get_ne h] at e
        obtain ⟨w, e1, q⟩ := R.fz j z e n
        exact ⟨w, by rw [List.getElem?_set_ne (Ne.symm h)]; exact e1, q⟩
    ow := fun j z e m => by
      obtain ⟨p, e0, e1, q⟩ := R.ow j z (g m e) m
      exact ⟨p, e0, by rw [List.getElem?_set_ne (Ne.symm (ne m))]; exact e1, q⟩
    inA := R.inA
    ok := R.ok
    dist := R.dist
    px := fun j a c e => let ⟨m, q⟩ := R.px j a c e; ⟨m, by rw [List.getElem?_set_ne (Ne.symm (ne m))]; exact q⟩
    io := fun p e => by
      obtain ⟨h1, h2, h3, z, h4⟩ := R.io p e
      exact ⟨h1, h2, h3, z, by rw [set_get_ne (ne h1)]; exact h4⟩ }
def mgName (i : Nat) : MG := fun d ρ => if i < ρ.length then .ok () (ρ.set i (some d)) else .bad
def mgNil : List D → En → R Unit := fun ds ρ => match ds with
  | [] => .ok () ρ
  | _ => .bad
def mgCons (g : MG) (gs : List D → En → R Unit) : List D → En → R Unit := fun ds ρ => match ds with
  | d :: r => (g d ρ).bind fun _ ρ1 => gs r ρ1
  | [] => .bad
def mgTup (n : Nat) (gs : List D → En → R Unit) : MG := fun d ρ => match d with
  | .tup ds => if ds.length = n then gs ds ρ else .bad
  | _ => .bad
section
variable {X : Cx} {G : Gd} {O vs : List Nat} {W : WX} {x : Str} {pos : Pos} {e : Expr} {es : List Expr} {g : MG} {gs : List D → En → R Unit}
theorem dg_name {i : Nat} (hv : vs.contains i = true) (hO : O.contains i = false) (hN : X.N.Nodup) (hi : X.N[i]? = some x) (hx : Loc X.env.scope x) (hf : X.fn x = true ∨ X.env.scope.names.lookup x = some .local := by first | exact .inl rfl | exact .inr rfl | assumption) : DG X G O vs (.Name x pos) (mgName i) := by
  refine pg_imp (pg_name hN hi hx hf) fun v σ H Q ⟨A, ms, ρ, d, R, r, q⟩ => ?_
  unfold mgName at q
  split at q
  · rename_i hl
    exact q _ _ (SlEq.set (List.contains_iff_mem.mp hv)) (R.put (fun z => by rw [List.contains_iff_mem.mpr z] at hO; cases hO) hl r) Kp.refl
  · exact q.elim
theorem dgs_nil : DGs X G O vs [] mgNil := pgs_imp pgs_nil fun us σ H Q ⟨A, ms, ρ, ds, R, r, q⟩ => by
  cases r with
  | nil => exact ⟨rfl, q _ _ SlEq.refl R Kp.refl⟩
  | cons _ _ => exact q.elim
theorem dgs_cons (h1 : DG X G O vs e g) (h2 : DGs X G O vs es gs) (hs : (assignEach (e :: es) X.env).map (·.2) = assign e X.env :: (assignEach es X.env).map (·.2) := by rfl) : DGs X G O vs (e :: es) (mgCons g gs) := by
  refine pgs_imp (pgs_cons h1 h2 hs) fun us σ H Q ⟨A, ms, ρ, ds, R, r, q⟩ => ?_
  cases r with
  | nil => exact q.elim
  | @cons v vr d dr r1 r2 =>
    refine ⟨_, _, rfl, A, ms, ρ, d, R, r1, ?_⟩
    have q' : GPost X.K G O vs A ms σ H Q ((g d ρ).bind fun _ ρ1 => gs dr ρ1) := q
    cases hg : g d ρ with
    | bad => rw [hg] at q'; exact q'.elim
    | ex y ρ1 => rw [hg] at q'; exact q'.elim
    | ok u ρ1 =>
      rw [hg] at q'
      have q : GPost X.K G O vs A ms σ H Q (gs dr ρ1) := q'
      exact fun σ' H' e' R' k => ⟨A, ms, ρ1, dr, R', r2.tr (R.kt k), GPost.from e' k q⟩
theorem dg_tup {k n : Nat} (hc : X.calm = true) (h : DGs X G O vs es gs) (hn : (assignEach es X.env).length = n := by rfl) (hst : (assignEach es X.env).findIdx? (·.1) = none := by rfl) : DG X G O vs (.Tuple es k pos) (mgTup n gs) := by
  refine pg_imp (pg_tup hc h hn hst) fun v σ H Q ⟨A, ms, ρ, d, R, r, q⟩ => ?_
  unfold mgTup at q
  split at q
  · split at q
    · rename_i ds hl
      cases r with
      | tup h1 h2 => exact ⟨_, _, rfl, h1.sq, by rw [h2.length]; exact hl, A, ms, ρ, ds, R, h2, q⟩
    · exact q.elim
  · exact q.elim
def gSet : D → D → D → Option D
  | .lst cs, .int k, d => (L2.ixN cs.length k).map fun n => .lst (cs.set n d)
  | _, _, _ => none
def mgSub (j : Nat) (mi : ME) : MG := fun d ρ => match getO ρ j with
  | some (.lst _) => (mi ρ).bind fun i ρ1 => match getO ρ1 j with
    | some c => match gSet c i d with
      | some c' => .ok () (ρ1.set j (some c'))
      | none => .bad
    | none => .bad
  | _ => .bad
abbrev W0 : WX := fun _ _ _ _ => False
theorem dg_sub {j : Nat} {i : Expr} {mi : ME} {y : Str} {py : Pos} (hj : O.contains j = true) (hy : PE X (.Name y py) (tVar j)) (hi : DE X G O W0 i mi)
    (ha : ∀ v, assign (.Subscript (.Name y py) i pos) X.env v = (do
      let ov ← holding [v] (eval (.Name y py) X.env)
      let iv ← holding [v, ov] (eval i X.env)
      standAt pos
      holding [v, ov, iv] (setItem ov iv v)
      release [v, ov, iv] []) := by intro _; rfl) : DG X G O vs (.Subscript (.Name y py) i pos) (mgSub j mi) := by
  refine pg_imp (pg_sub hy hi set_list ha) fun v σ H Q ⟨A, ms, ρ, d, R, r, q⟩ => ?_
  have hj' := List.contains_iff_mem.mp hj
  unfold mgSub at q
  split at q
  · rename_i c hc
    obtain ⟨p, hp, hv, _⟩ := R.ow j _ (getO_some hc) hj'
    refine ⟨_, hv, A, ms, ρ, R, ?_⟩
    cases hm : mi ρ with
    | bad => rw [hm] at q; exact q.elim
    | ex y ρ1 => rw [hm] at q; exact q.elim
    | ok iv ρ1 =>
      rw [hm] at q
      intro iV H1 R1 k1 r1
      have q1 : GPost X.K G O vs A ms σ H Q (match getO ρ1 j with
        | some c => match gSet c iv d with
          | some c' => .ok () (ρ1.set j (some c'))
          | none => .bad
        | none => .bad) := q
      split at q1
      · rename_i c1 hc1
        split at q1
        · rename_i c2 hset
          cases c1 with
          | lst cs =>
            cases iv with
            | int kk =>
              obtain ⟨n, hn, rfl⟩ := map_some (show (L2.ixN cs.length kk).map (fun n => D.lst (cs.set n d)) = some c2 from hset)
              have b1 := getO_some hc1
              obtain ⟨p', hp', _, oj⟩ := R1.ow j _ b1 hj'
              rw [hp] at hp'
              cases hp'
              have aj := R.inA j p hj' hp
              obtain ⟨ws, hw, rw1⟩ := own_lst oj
              cases r1
              refine ⟨_, ws, kk, n, rfl, rfl, hw, by rw [rw1.length]; exact hn, ?_⟩
              refine q1 σ _ SlEq.refl (R1.setOwn hj' b1 hp upd_out (.lst upd_same ((rw1.upd aj).set n ((r.tr (R.kt k1)).upd aj)))) (k1.trans (Kp.own hj' hp upd_out))
            | _ => cases hset
          | _ => cases hset
        · exact q1.elim
      · exact q1.elim
  · exact q.elim
end
end DL
namespace DL
open L2 PySem PySem.Spec PyProof.Rows
def NPx (G : Gd) (j : Nat) : Prop := ∀ i a c, G.px = some (i, a, c) → i ≠ j
theorem NPx.no {G : Gd} {j : Nat} (h : G.px = none) : NPx G j := fun i a c e => by rw [h] at e; cases e
def obind {α : Type} (r : R α) (f : α → En → Out) : Out := match r with
  | .ok a ρ => f a ρ
  | .ex x ρ => .ex x ρ
  | .bad => .bad
def msNil : MS := fun ρ => .nx ρ
def msSeq (a b : MS) : MS := fun ρ => match a ρ with
  | .nx ρ1 => b ρ1
  | o => o
def msExpr (m : ME) : MS := fun ρ => obind (m ρ) fun _ ρ1 => .nx ρ1
def msAsg (m : ME) (g : MG) : MS := fun ρ => obind (m ρ) fun d ρ1 => match g d ρ1 with
  | .ok _ ρ2 => .nx ρ2
  | _ => .bad
def msOwn (i : Nat) (m : ME) : MS := fun ρ => obind (m ρ) fun d ρ1 => if i < ρ1.length then .nx (ρ1.set i (some d)) else .bad
def msRet (m : ME) : MS := fun ρ => obind (m ρ) fun d ρ1 => .rt d ρ1
def msRetN : MS := fun ρ => .rt .non ρ
def msRetO (j : Nat) : MS := fun ρ => match getO ρ j with
  | some d => .rt d ρ
  | none => .bad
def msIf (c : MT) (a b : MS) : MS := fun ρ => obind (c ρ) fun k ρ1 => if k = true then a ρ1 else b ρ1
def msBrk : MS := fun ρ => .bk ρ
def msCnt : MS := fun ρ => .ct ρ
def loopL (g : MG) (mb : MS) : List D → En → Out
  | [], ρ => .nx ρ
  | d :: r, ρ => match g d ρ with
    | .ok _ ρ1 => match mb ρ1 with
      | .nx ρ2 => loopL g mb r ρ2
      | .ct ρ2 => loopL g mb r ρ2
      | .bk ρ2 => .nx ρ2
      | o => o
    | _ => .bad
def msFor (mi : En → R (List D)) (g : MG) (mb : MS) : MS := fun ρ => obind (mi ρ) fun ds ρ1 => loopL g mb ds ρ1
def loopW (c : MT) (mb : MS) : Nat → En → Out
  | 0, _ => .bad
  | n + 1, ρ => match c ρ with
    | .ok true ρ1 => match mb ρ1 with
      | .nx ρ2 => loopW c mb n ρ2
      | .ct ρ2 => loopW c mb n ρ2
      | .bk ρ2 => .nx ρ2
      | o => o
    | .ok false ρ1 => .nx ρ1
    | .ex x ρ1 => .ex x ρ1
    | .bad => .bad
def msWhile (n : Nat) (c : MT) (mb : MS) : MS := loopW c mb n
section
variable {X : Cx} {G : Gd} {XC : List Nat → Prop} {Ol O O' O1 : List Nat} {W : WX} {fr : Bool} {st : Stmt} {sts rest : List Stmt} {ma mb mc : MS} {e c : Expr} {me : ME} {pos : Pos}
theorem dss_nil : DSs X G XC Ol O O W fr [] msNil := pss_imp pss_nil fun D0 σ H ⟨A, ms, ρ, R, q⟩ => q σ H A ms R Tr.refl
theorem dss_cons (h1 : DS X G XC Ol O O1 W fr st ma) (h2 : DSs X G XC Ol O1 O' W fr rest mb) : DSs X G XC Ol O O' W fr (st :: rest) (msSeq ma mb) := by
  refine pss_imp (pss_cons h1 h2) fun D0 σ H ⟨A, ms, ρ, R, q⟩ => ?_
  refine ⟨A, ms, ρ, R, ?_⟩
  unfold msSeq at q
  cases hm : ma ρ with
  | nx ρ1 =>
    rw [hm] at q
    exact fun σ' H' A' ms' R' t => ⟨A', ms', ρ1, R', SPost.from t q⟩
  | rt d ρ1 => rw [hm] at q; exact q
  | bk ρ1 => rw [hm] at q; exact q
  | ct ρ1 => rw [hm] at q; exact q
  | ex x ρ1 => rw [hm] at q; exact q
  | bad => rw [hm] at q; exact q.elim
theorem dss_one (h1 : DS X G XC Ol O O' W fr st ma) : DSs X G XC Ol O O' W fr [st] ma := pss_imp (pss_one h1) fun _ _ _ h => h
theorem eb {K : PySem.W.Frag} {α β : Type} {A : Addr → Prop} {ms : Nat → Option Addr} {σ : L2.St} {H : Hp} {D0 : Ends} {r : R α} {f : α → En → Out} {rel : Hp → β → α → Prop} {Q : β → Hp → Prop} (hx : XC O) (h : SPost K G XC Ol O' W fr A H D0 (obind r f))
    (w : ∀ a ρ1 v H1, r = .ok a ρ1 → RelS K G O A ms σ H1 ρ1 → Kp O ms H H1 → rel H1 v a → SPost K G XC Ol O' W fr A H1 D0 (f a ρ1) → Q v H1) : RPost K G O W A ms σ H rel Q r := by
  cases r with
  | ok a ρ1 => exact fun v H1 R k q => w a ρ1 v H1 rfl R k q (SPost.from (R.kt k) h)
  | ex x ρ1 => exact fun dx H1 R k xr => h dx σ H1 A ms O hx R (R.kt k) xr
  | bad => exact h
theorem ds_expr (hx : XC O) (he : DE X G O W e me) (hs : swapsWith e none pos.line X.env = pure false := by rfl) : DS X G XC Ol O O W fr (.Expr e pos) (msExpr me) := by
  refine ps_imp (ps_expr he hs) fun D0 σ H ⟨A, ms, ρ, R, q⟩ => ⟨A, ms, ρ, R, eb hx q ?_⟩
  exact fun a ρ1 v H1 _ R1 k r q1 => q1 σ H1 A ms R1 Tr.refl
theorem ds_brk : DS X G XC O O O' W fr (.Break pos) msBrk := ps_imp ps_break fun D0 σ H ⟨A, ms, ρ, R, q⟩ => q σ H A ms R Tr.refl
theorem ds_cnt : DS X G XC O O O' W fr (.Continue pos) msCnt := ps_imp ps_continue fun D0 σ H ⟨A, ms, ρ, R, q⟩ => q σ H A ms R Tr.refl
theorem ds_asg {tg : Expr} {g : MG} {vs : List Nat} (hx : XC O) (he : DE X G O W e me) (hg : DG X G O vs tg g) (hs : swapsWithSole [tg] e pos.line X.env = pure false := by rfl) (hw : swappedStores [tg] e X.env = pure none := by rfl) (h1 : (assignEach [tg] X.env).map (·.2) = [assign tg X.env] := by rfl) : DS X G XC Ol O O W fr (.Assign [tg] e pos) (msAsg me g) := by
  refine ps_imp (ps_asg he hg hs hw h1) fun D0 σ H ⟨A, ms, ρ, R, q⟩ => ⟨A, ms, ρ, R, eb hx q ?_⟩
  intro d ρ1 v H1 _ R1 k r q1
  refine ⟨A, ms, ρ1, d, R1, r, ?_⟩
  cases hg' : g d ρ1 with
  | ok u ρ2 =>
    rw [hg'] at q1
    exact fun σ' H' _ R' k' => q1 σ' H' A ms R' (R'.kt k')
  | ex y ρ2 => rw [hg'] at q1; exact q1.elim
  | bad => rw [hg'] at q1; exact q1.elim
theorem RelS.own {K : PySem.W.Frag} {A : Addr → Prop} {ms : Nat → Option Addr} {σ : L2.St} {H : Hp} {ρ : En} {i : Nat} {p : Addr} {d : D} (R : RelS K G O (fun a => A a ∨ a = p) ms σ H ρ) (hi : i ∈ O) (h0 : i ≠ 0 ∨ G.io = none) (hlt : i < ρ.length)
    (nm : ∀ j ∈ O, ms j ≠ some p) (hpx : NPx G i) (hp0 : G.H0 p = none) (ow : Own K (fun a => A a ∨ a = p) H p d) : RelS K G O (fun a => A a ∨ a = p) (fun j => if j = i then some p else ms j) (σ.set i (some (.ref p))) H (ρ.set i (some d)) := by
  have gne : ∀ {j : Nat} {z : D}, j ≠ i → (ρ.set i (some d))[j]? = some (some z) → ρ[j]? = some (some z) := fun {j z} n e => by rw [set_get_ne n] at e; exact e
  exact {
    sub := R.sub
    trk0 := R.trk0
    trk := R.trk
    keep := R.keep
    len := by rw [List.length_set, List.length_set]; exact R.len
    fz := fun j z e n => by
      have h : j ≠ i := fun q => n (q ▸ hi)
      obtain ⟨w, e1, q⟩ := R.fz j z (gne h e) n
      exact ⟨w, by rw [List.getElem?_set_ne (Ne.symm h)]; exact e1, q⟩
    ow := fun j z e m => by
      by_cases h : j = i
      · subst h
        rw [List.getElem?_set_self hlt] at e
        cases e
        exact ⟨p, if_pos rfl, List.getElem?_set_self (by rw [R.len]; exact hlt), ow⟩
      · obtain ⟨q, e0, e1, w⟩ := R.ow j z (gne h e) m
        exact ⟨q, (if_neg h).trans e0, by rw [List.getElem?_set_ne (Ne.symm h)]; exact e1, w⟩
    inA := fun j q m e => by
      by_cases h : j = i
      · rw [if_pos h] at e
        exact .inr (Option.some.inj e).symm
      · rw [if_neg h] at e
        exact R.inA j q m e
    ok := fun j q m e => by
      by_cases h : j = i
      · rw [if_pos h] at e
        cases e
        exact .inr ⟨h ▸ h0, hp0⟩
      · rw [if_neg h] at e
        exact R.ok j q m e
    dist := fun j j' q m m' e e' => by
      by_cases h : j = i
      · by_cases h' : j' = i
        · exact h.trans h'.symm
        · rw [if_pos h] at e
          rw [if_neg h'] at e'
          cases e
          exact absurd e' (nm j' m')
      · by_cases h' : j' = i
        · rw [if_neg h] at e
          rw [if_pos h'] at e'
          cases e'
          exact absurd e (nm j m)
        · rw [if_neg h] at e
          rw [if_neg h'] at e'
          exact R.dist j j' q m m' e e'
    px := fun j a c e => let ⟨m, q⟩ := R.px j a c e; ⟨m, by rw [List.getElem?_set_ne fun z => hpx j a c e z.symm]; exact q⟩
    io := fun q e => by
      obtain ⟨h1, h2, h3, z, h4⟩ := R.io q e
      have hi0 : (0 : Nat) ≠ i := fun w => by
        rcases h0 with k | k
        · exact k w.symm
        · rw [k] at e; cases e
      exact ⟨h1, h2, by rw [if_neg hi0]; exact h3, z, by rw [set_get_ne hi0]; exact h4⟩ }
theorem h0_none {K : PySem.W.Frag} {A : Addr → Prop} {ms : Nat → Option Addr} {σ : L2.St} {H : Hp} {ρ : En} {p : Addr} (R : RelS K G O A ms σ H ρ) (hp : H p = none) : G.H0 p = none := by
  cases e : G.H0 p with
  | none => rfl
  | some o =>
    by_cases q : G.io = some p
    · obtain ⟨_, h2, _⟩ := R.io p q
      obtain ⟨o', e', _⟩ := R.trk p (R.sub p h2)
      rw [hp] at e'; cases e'
    · have := R.keep p o e q
      rw [hp] at this; cases this
theorem ds_own {i : Nat} {x : Str} {p : Pos} (hx : XC O) (he : DF X G O W e me) (hi : O.contains i = true) (h0 : i ≠ 0 ∨ G.io = none) (hN : X.N.Nodup) (hn : X.N[i]? = some x) (hl : Loc X.env.scope x)
    (hf : X.fn x = true ∨ X.env.scope.names.lookup x = some .local := by first | exact .inl rfl | exact .inr rfl | assumption)
    (hs : swapsWithSole [.Name x p] e pos.line X.env = pure false := by rfl) (hw : swappedStores [.Name x p] e X.env = pure none := by rfl) (hpx : NPx G i := by first | exact NPx.no rfl | assumption) : DS X G XC Ol O O W fr (.Assign [.Name x p] e pos) (msOwn i me) := by
  refine ps_imp (ps_asg he (pg_name hN hn hl hf) hs hw) fun D0 σ H ⟨A, ms, ρ, R, q⟩ => ⟨A, ms, ρ, R, ?_⟩
  unfold msOwn at q
  cases hm : me ρ with
  | bad => rw [hm] at q; exact q.elim
  | ex y ρ1 => rw [hm] at q; exact fun dx H1 R1 k xr => q dx σ H1 A ms O hx R1 (R1.kt k) xr
  | ok d ρ1 =>
    rw [hm] at q
    intro r H1 R1 R2 k hr ow
    have q' : SPost X.K G XC Ol O W fr A H D0 (if i < ρ1.length then .nx (ρ1.set i (some d)) else .bad) := q
    split at q'
    · rename_i hlt
      refine q' _ H1 _ _ (R2.own (List.contains_iff_mem.mp hi) h0 hlt (R.msne hr) hpx (h0_none R hr) ow) fun a o e n => ⟨(R1.kt k a o e n).1, fun z => z.elim n fun z => ?_⟩
      rw [z, hr] at e
      cases e
    · exact q'.elim
theorem ret_of {K : PySem.W.Frag} {A : Addr → Prop} {ms : Nat → Option Addr} {σ : L2.St} {H : Hp} {ρ : En} {v : V} {d : D} (R : RelS K G O A ms σ H ρ) (r : Rp K A H v d) : RetG K G false v H d (io0 ρ) := ⟨R.ki, r.less R.sub, fun p e => (R.ioOwn e).less R.sub⟩
theorem ds_ret (hx : XC O) (he : DE X G O W e me) : DS X G XC Ol O O' W false (.Return (some e) pos) (msRet me) := by
  refine ps_imp (ps_ret he) fun D0 σ H ⟨A, ms, ρ, R, q⟩ => ⟨A, ms, ρ, R, eb hx q ?_⟩
  exact fun d ρ1 v H1 _ R1 k r q1 => q1 v H1 (ret_of R1 r)
theorem ds_retO {j : Nat} {x : Str} {p : Pos} (hj : O.contains j = true) (h0 : j ≠ 0 ∨ G.io = none) (hy : PE X (.Name x p) (tVar j)) : DS X G XC Ol O O' W true (.Return (some (.Name x p)) pos) (msRetO j) := by
  refine ps_imp (ps_ret hy) fun D0 σ H ⟨A, ms, ρ, R, q⟩ => ?_
  unfold msRetO at q
  cases hc : getO ρ j with
  | none => rw [hc] at q; exact q.elim
  | some d =>
    rw [hc] at q
    have hj' := List.contains_iff_mem.mp hj
    have b := getO_some hc
    obtain ⟨p, e0, e1, oj⟩ := R.ow j d b hj'
    have aj := R.inA j p hj' e0
    have hp0 : G.H0 p = none := by
      rcases R.ok j p hj' e0 with ⟨z, w⟩ | ⟨_, w⟩
      · rcases h0 with k | k
        · exact absurd z k
        · rw [k] at w; cases w
      · exact w
    have less : ∀ a, (G.A0 a ∨ a = p) → A a := fun a z => z.elim (R.sub a) fun z => z ▸ aj
    exact ⟨_, e1, q (.ref p) H ⟨R.ki, p, rfl, hp0, oj.less less, fun p e => (R.ioOwn e).less less⟩⟩
theorem ds_retOv {j : Nat} {x : Str} {p : Pos} (hj : O.contains j = true) (h0 : j ≠ 0 ∨ G.io = none) (hy : PE X (.Name x p) (tVar j)) : DS X G XC Ol O O' W false (.Return (some (.Name x p)) pos) (msRetO j) := by
  refine ps_imp (ps_ret hy) fun D0 σ H ⟨A, ms, ρ, R, q⟩ => ?_
  unfold msRetO at q
  cases hc : getO ρ j with
  | none => rw [hc] at q; exact q.elim
  | some d =>
    rw [hc] at q
    have hj' := List.contains_iff_mem.mp hj
    have b := getO_some hc
    obtain ⟨p, e0, e1, oj⟩ := R.ow j d b hj'
    have aj := R.inA j p hj' e0
    have hp0 : G.H0 p = none := by
      rcases R.ok j p hj' e0 with ⟨z, w⟩ | ⟨_, w⟩
      · rcases h0 with k | k
        · exact absurd z k
        · rw [k] at w; cases w
      · exact w
    have n0 : ¬ G.A0 p := fun z => by
      obtain ⟨o, w⟩ := R.trk0 _ z
      rw [hp0] at w; cases w
    exact ⟨_, e1, q (.ref p) H ⟨R.ki, oj.freeze R.sub n0, fun p e => (R.ioOwn e).less R.sub⟩⟩
theorem ds_if {mt : MT} {a b : List Stmt} (hx : XC O) (hc : DT X G O W c mt) (ha : DSs X G XC Ol O O' W fr a ma) (hb : DSs X G XC Ol O O' W fr b mb) : DS X G XC Ol O O' W fr (.If c a b pos) (msIf mt ma mb) := by
  refine ps_imp (ps_if hc ha hb) fun D0 σ H ⟨A, ms, ρ, R, q⟩ => ⟨A, ms, ρ, R, eb hx q ?_⟩
  intro k ρ1 v H1 _ R1 k1 r q1
  cases r
  cases k with
  | true => exact ⟨A, ms, ρ1, R1, q1⟩
  | false => exact ⟨A, ms, ρ1, R1, q1⟩
def ItOk (K : PySem.W.Frag) (A : Addr → Prop) (H : Hp) (J : It) (ds : List D) : Prop := ∀ A' H', Tr A A' H H' → Trk A' H' → (∀ i d, ds[i]? = some d → J.go i H' ∧ ∀ x H'', J.yld i H' x H'' → Same H' H'' ∧ Rp K A' H'' x d) ∧ J.stop ds.length H'
def tI (K : PySem.W.Frag) (G : Gd) (O : List Nat) (W : WX) (m : En → R (List D)) : TI := fun σ H Q => ∃ A ms ρ, RelS K G O A ms σ H ρ ∧ RPost K G O W A ms σ H (fun H' J ds => ItOk K A H' J ds) Q (m ρ)
def DI (X : Cx) (G : Gd) (O : List Nat) (W : WX) (tg e : Expr) (m : En → R (List D)) : Prop := PI X tg e (tI X.K G O W m)
theorem pi_imp {tg e : Expr} {t t' : TI} (h : PI X tg e t) (w : ∀ σ H Q, t' σ H Q → t σ H Q) : PI X tg e t' := ⟨fun pins s σ H R I q => h.run pins s σ H R I (w σ H R q)⟩
theorem ItOk.tr {K : PySem.W.Frag} {A A1 : Addr → Prop} {H H1 : Hp} {J : It} {ds : List D} (h : ItOk K A H J ds) (t : Tr A A1 H H1) : ItOk K A1 H1 J ds := fun A' H' t' => h A' H' (t.trans t')
theorem ds_for {tg iter : Expr} {vs : List Nat} {body : List Stmt} {mi : En → R (List D)} {g : MG} (hx : XC O) (hp : PassesOwn (model X.prog X.w) X.A X.env X.xe) (hc : X.calm = true) (hi : DI X G O W tg iter mi) (hg : DG X G O vs tg g) (hb : DSs X G XC O O O W fr body mb)
    (hs : ∀ x, foldedSetIterable iter X.env x = pure x := by intro _; rfl) : DS X G XC Ol O O W fr (.For tg iter body [] pos) (msFor mi g mb) := by
  refine ps_imp (ps_for hp hc hi hg hb hs) fun D0 σ H ⟨A, ms, ρ, R, q⟩ => ⟨A, ms, ρ, R, eb hx q ?_⟩
  intro ds ρ1 J H1 _ R1 k1 itok q1
  refine ⟨fun i m σ' H' => i ≤ ds.length ∧ m = ds.length - i ∧ ∃ A' ms' ρ', RelS X.K G O A' ms' σ' H' ρ' ∧ Tr A A' H1 H' ∧ SPost X.K G XC Ol O W fr A' H' D0 (loopL g mb (ds.drop i) ρ'),
    ⟨ds.length, Nat.zero_le _, rfl, A, ms, ρ1, R1, Tr.refl, q1⟩, ?_⟩
  rintro i m σ2 H2 ⟨hi, rfl, A2, ms2, ρ2, R2, t2, q2⟩
  obtain ⟨goes, stops⟩ := itok A2 H2 t2 R2.trk
  by_cases hlt : i < ds.length
  · have hd : ds[i]? = some ds[i] := List.getElem?_eq_getElem hlt
    obtain ⟨go, yl⟩ := goes i _ hd
    have e : ds.drop i = ds[i] :: ds.drop (i + 1) := List.drop_eq_getElem_cons hlt
    rw [e] at q2
    refine .inr ⟨go, fun σ' H' => i + 1 ≤ ds.length ∧ ∃ A' ms' ρ', RelS X.K G O A' ms' σ' H' ρ' ∧ Tr A A' H1 H' ∧ SPost X.K G XC Ol O W fr A' H' D0 (loopL g mb (ds.drop (i + 1)) ρ'), fun σ' H' ⟨w1, w2⟩ => ⟨ds.length - (i + 1), by omega, w1, rfl, w2⟩, fun x H3 hy => ?_⟩
    obtain ⟨s3, rx⟩ := yl x H3 hy
    refine ⟨A2, ms2, ρ2, ds[i], R2.same s3, rx, ?_⟩
    have q3 : SPost X.K G XC Ol O W fr A2 H3 D0 (match g ds[i] ρ2 with
      | .ok _ ρ1 => match mb ρ1 with
        | .nx ρ2 => loopL g mb (ds.drop (i + 1)) ρ2
        | .ct ρ2 => loopL g mb (ds.drop (i + 1)) ρ2
        | .bk ρ2 => .nx ρ2
        | o => o
      | _ => .bad) := SPost.from (Tr.same s3) q2
    have t3 : Tr A A2 H1 H3 := t2.trans (Tr.same s3)
    cases hgd : g ds[i] ρ2 with
    | bad => rw [hgd] at q3; exact q3.elim
    | ex y ρ3 => rw [hgd] at q3; exact q3.elim
    | ok u ρ3 =>
      rw [hgd] at q3
      intro σ4 H4 _ R4 k4
      refine ⟨A2, ms2, ρ3, R4, ?_⟩
      have t4 : Tr A A2 H1 H4 := t3.trans (R4.kt k4)
      have q4 := SPost.from (R4.kt k4) q3
      cases hm : mb ρ3 with
      | nx ρ5 =>
        simp only [hm] at q4
        exact fun σ' H' A' ms' R' t => ⟨hlt, A', ms', ρ5, R', t4.trans t, SPost.from t q4⟩
      | ct ρ5 =>
        simp only [hm] at q4
        exact fun σ' H' A' ms' R' t => ⟨hlt, A', ms', ρ5, R', t4.trans t, SPost.from t q4⟩
      | bk ρ5 =>
        simp only [hm] at q4
        exact fun σ' H' A' ms' R' t => q4 σ' H' A' ms' R' t
      | rt d ρ5 => simp only [hm] at q4; exact q4
      | ex y ρ5 => simp only [hm] at q4; exact q4
      | bad => simp only [hm] at q4; exact q4.elim
  · have e : i = ds.length := by omega
    subst e
    refine .inl ⟨stops, ?_⟩
    have q3 : SPost X.K G XC Ol O W fr A2 H2 D0 (loopL g mb (ds.drop ds.length) ρ2) := q2
    rw [List.drop_length] at q3
    exact q3 σ2 H2 A2 ms2 R2 Tr.refl
theorem ds_while {mt : MT} {body : List Stmt} (n : Nat) (hx : XC O) (hp : PassesOwn (model X.prog X.w) X.A X.env X.xe) (hc : DT X G O W c mt) (hb : DSs X G XC O O O W fr body mb) : DS X G XC Ol O O W fr (.While c body [] pos) (msWhile n mt mb) := by
  refine ps_imp (ps_while hp hc hb) fun D0 σ H ⟨A, ms, ρ, R, q⟩ => ?_
  refine ⟨fun m σ' H' => ∃ A' ms' ρ', RelS X.K G O A' ms' σ' H' ρ' ∧ SPost X.K G XC Ol O W fr A' H' D0 (loopW mt mb m ρ'), ⟨n, A, ms, ρ, R, q⟩, ?_⟩
  rintro m σ1 H1 ⟨A1, ms1, ρ1, R1, q1⟩
  cases m with
  | zero => exact q1.elim
  | succ m =>
    refine ⟨A1, ms1, ρ1, R1, ?_⟩
    have q2 : SPost X.K G XC Ol O W fr A1 H1 D0 (match mt ρ1 with
      | .ok true ρ1 => match mb ρ1 with
        | .nx ρ2 => loopW mt mb m ρ2
        | .ct ρ2 => loopW mt mb m ρ2
        | .bk ρ2 => .nx ρ2
        | o => o
      | .ok false ρ1 => .nx ρ1
      | .ex x ρ1 => .ex x ρ1
      | .bad => .bad) := q1
    cases hm : mt ρ1 with
    | bad => rw [hm] at q2; exact q2.elim
    | ex y ρ2 => rw [hm] at q2; exact fun dx H' R' k xr => q2 dx σ1 H' A1 ms1 O hx R' (R'.kt k) xr
    | ok b ρ2 =>
      rw [hm] at q2
      intro v H2 R2 k2 rv
      cases rv
      have q3 := SPost.from (R2.kt k2) q2
      cases b with
      | false => exact q3 σ1 H2 A1 ms1 R2 Tr.refl
      | true =>
        rw [if_pos rfl]
        refine ⟨fun σ' H' => ∃ A' ms' ρ', RelS X.K G O A' ms' σ' H' ρ' ∧ SPost X.K G XC Ol O W fr A' H' D0 (loopW mt mb m ρ'), fun σ' H' w => ⟨m, Nat.lt_succ_self _, w⟩, A1, ms1, ρ2, R2, ?_⟩
        cases hb' : mb ρ2 with
        | nx ρ5 =>
          simp only [hb'] at q3
          exact fun σ' H' A' ms' R' t => ⟨A', ms', ρ5, R', SPost.from t q3⟩
        | ct ρ5 =>
          simp only [hb'] at q3
          exact fun σ' H' A' ms' R' t => ⟨A', ms', ρ5, R', SPost.from t q3⟩
        | bk ρ5 =>
          simp only [hb'] at q3
          exact fun σ' H' A' ms' R' t => q3 σ' H' A' ms' R' t
        | rt d ρ5 => simp only [hb'] at q3; exact q3
        | ex y ρ5 => simp only [hb'] at q3; exact q3
        | bad => simp only [hb'] at q3; exact q3.elim
theorem RelS.freezeSlot {K : PySem.W.Frag} {A : Addr → Prop} {ms : Nat → Option Addr} {σ : L2.St} {H : Hp} {ρ : En} {j : Nat} (R : RelS K G O A ms σ H ρ) (hpx : NPx G j) (h0 : j ≠ 0 ∨ G.io = none) (hO : ∀ i, i ∈ O1 ↔ i ∈ O ∧ i ≠ j) :
    ∃ A', RelS K G O1 A' ms σ H ρ ∧ Tr A A' H H := by
  have io1 : ∀ p, G.io = some p → 0 ∈ O1 ∧ G.A0 p ∧ ms 0 = some p ∧ ∃ d, ρ[0]? = some (some d) := fun p e => by
    obtain ⟨h1, h2, h3, z, h4⟩ := R.io p e
    refine ⟨(hO 0).mpr ⟨h1, fun w => ?_⟩, h2, h3, z, h4⟩
    rcases h0 with k | k
    · exact k w.symm
    · rw [k] at e; cases e
  by_cases hb : j ∈ O ∧ ∃ d, ρ[j]? = some (some d)
  · obtain ⟨hj, d, hd⟩ := hb
    obtain ⟨p, e0, e1, oj⟩ := R.ow j d hd hj
    have hp0 : G.H0 p = none := by
      rcases R.ok j p hj e0 with ⟨z, w⟩ | ⟨_, w⟩
      · rcases h0 with k | k
        · exact absurd z k
        · rw [k] at w; cases w
      · exact w
    have less : ∀ a, (A a ∧ a ≠ p) → A a := fun a z => z.1
    refine ⟨fun a => A a ∧ a ≠ p, ?_, fun a o e n => ⟨e, fun z => n z.1⟩⟩
    exact {
      sub := fun a z => ⟨R.sub a z, fun q => by
        obtain ⟨o, w⟩ := R.trk0 _ z
        rw [q, hp0] at w; cases w⟩
      trk0 := R.trk0
      trk := fun a z => R.trk a z.1
      keep := R.keep
      len := R.len
      fz := fun i z e n => by
        by_cases h : i = j
        · subst h
          rw [hd] at e
          cases e
          exact ⟨_, e1, oj.freeze less fun z => z.2 rfl⟩
        · obtain ⟨v, e2, q⟩ := R.fz i z e fun m => n ((hO i).mpr ⟨m, h⟩)
          exact ⟨v, e2, q.less less⟩
      ow := fun i z e m => by
        obtain ⟨q, w0, w1, w2⟩ := R.ow i z e ((hO i).mp m).1
        exact ⟨q, w0, w1, w2.less less⟩
      inA := fun i q m e => ⟨R.inA i q ((hO i).mp m).1 e, fun z => ((hO i).mp m).2 (R.dist i j p ((hO i).mp m).1 hj (z ▸ e) e0)⟩
      ok := fun i q m e => R.ok i q ((hO i).mp m).1 e
      dist := fun i i' q m m' e e' => R.dist i i' q ((hO i).mp m).1 ((hO i').mp m').1 e e'
      px := fun i a c e => let ⟨m, q⟩ := R.px i a c e; ⟨(hO i).mpr ⟨m, hpx i a c e⟩, q⟩
      io := io1 }
  · refine ⟨A, ?_, Tr.refl⟩
    exact {
      sub := R.sub
      trk0 := R.trk0
      trk := R.trk
      keep := R.keep
      len := R.len
      fz := fun i z e n => by
        by_cases h : i = j
        · subst h
          by_cases m : i ∈ O
          · exact absurd ⟨m, z, e⟩ hb
          · exact R.fz i z e m
        · exact R.fz i z e fun m => n ((hO i).mpr ⟨m, h⟩)
      ow := fun i z e m => R.ow i z e ((hO i).mp m).1
      inA := fun i q m e => R.inA i q ((hO i).mp m).1 e
      ok := fun i q m e => R.ok i q ((hO i).mp m).1 e
      dist := fun i i' q m m' e e' => R.dist i i' q ((hO i).mp m).1 ((hO i').mp m').1 e e'
      px := fun i a c e => let ⟨m, q⟩ := R.px i a c e; ⟨(hO i).mpr ⟨m, hpx i a c e⟩, q⟩
      io := io1 }
theorem dss_freeze (j : Nat) (h0 : j ≠ 0 ∨ G.io = none) (h : DSs X G XC Ol (O.filter (· != j)) O' W fr sts ma) (hpx : NPx G j := by first | exact NPx.no rfl | assumption) : DSs X G XC Ol O O' W fr sts ma := by
  refine pss_imp h fun D0 σ H ⟨A, ms, ρ, R, q⟩ => ?_
  obtain ⟨A', R', t⟩ := R.freezeSlot (O1 := O.filter (· != j)) hpx h0 fun i => by simp [List.mem_filter]
  exact ⟨A', ms, ρ, R', SPost.from t q⟩
theorem RelS.forget {K : PySem.W.Frag} {A : Addr → Prop} {ms : Nat → Option Addr} {σ : L2.St} {H : Hp} {ρ : En} {j : Nat} (R : RelS K G O A ms σ H ρ) (hpx : NPx G j) (h0 : j ≠ 0 ∨ G.io = none) (hO : ∀ i, i ≠ j → (i ∈ O1 ↔ i ∈ O)) :
    RelS K G O1 A (fun i => if i = j then none else ms i) σ H (ρ.set j none) := by
  have ne : ∀ {i : Nat} {z : D}, (ρ.set j none)[i]? = some (some z) → i ≠ j := fun {i z} e h => by
    subst h
    by_cases hl : i < ρ.length
    · rw [List.getElem?_set_self hl] at e; cases e
    · rw [List.getElem?_eq_none (by rw [List.length_set]; omega)] at e; cases e
  have g : ∀ {i : Nat} {z : D}, (ρ.set j none)[i]? = some (some z) → ρ[i]? = some (some z) := fun {i z} e => by
    have e' := e
    rw [set_get_ne (ne e)] at e'
    exact e'
  have sm : ∀ {i : Nat} {p : Addr}, (if i = j then none else ms i) = some p → i ≠ j ∧ ms i = some p := fun {i p} e => by
    by_cases h : i = j
    · rw [if_pos h] at e; cases e
    · rw [if_neg h] at e; exact ⟨h, e⟩
  exact {
    sub := R.sub
    trk0 := R.trk0
    trk := R.trk
    keep := R.keep
    len := by rw [List.length_set]; exact R.len
    fz := fun i z e n => R.fz i z (g e) fun m => n ((hO i (ne e)).mpr m)
    ow := fun i z e m => by
      obtain ⟨p, e0, e1, w⟩ := R.ow i z (g e) ((hO i (ne e)).mp m)
      exact ⟨p, (if_neg (ne e)).trans e0, e1, w⟩
    inA := fun i p m e => R.inA i p ((hO i (sm e).1).mp m) (sm e).2
    ok := fun i p m e => R.ok i p ((hO i (sm e).1).mp m) (sm e).2
    dist := fun i i' p m m' e e' => R.dist i i' p ((hO i (sm e).1).mp m) ((hO i' (sm e').1).mp m') (sm e).2 (sm e').2
    px := fun i a c e => let ⟨m, q⟩ := R.px i a c e; ⟨(hO i (hpx i a c e)).mpr m, q⟩
    io := fun p e => by
      obtain ⟨h1, h2, h3, z, h4⟩ := R.io p e
      have n0 : (0 : Nat) ≠ j := fun w => by
        rcases h0 with k | k
        · exact k w.symm
        · rw [k] at e; cases e
      exact ⟨(hO 0 n0).mpr h1, h2, (if_neg n0).trans h3, z, by rw [set_get_ne n0]; exact h4⟩ }
def msForget (j : Nat) (m : MS) : MS := fun ρ => m (ρ.set j none)
theorem dss_forgetO (j : Nat) (h0 : j ≠ 0 ∨ G.io = none) (h : DSs X G XC Ol (j :: O) O' W fr sts ma) (hpx : NPx G j := by first | exact NPx.no rfl | assumption) : DSs X G XC Ol O O' W fr sts (msForget j ma) := by
  refine pss_imp h fun D0 σ H ⟨A, ms, ρ, R, q⟩ => ?_
  exact ⟨A, _, _, R.forget hpx h0 fun i hi => by simp [hi], q⟩
end
end DL
namespace DL
open L2 PySem PySem.Spec PyProof.Rows
def chars (s : Str) : List D := s.cps.toList.map fun c => .str ⟨#[c]⟩
def gIter : D → Option (List D)
  | .lst l => some l
  | .scr l => some l
  | .tup l => some l
  | .str s => some (chars s)
  | _ => none
def mIter (m : ME) : En → R (List D) := fun ρ => (m ρ).bind fun d ρ1 => ret (gIter d) ρ1
def rangeL (lo : Int) (n : Nat) : List D := (List.range n).map fun i => .int (lo + (i : Nat))
def okR (i : Int) : Bool := decide (-(2 ^ 62) ≤ i) && decide (i < 2 ^ 62)
def gRange1 : List D → Option (List D)
  | [.int j] => if okR j = true then some (rangeL 0 j.toNat) else none
  | _ => none
def gRange2 : List D → Option (List D)
  | [.int i, .int j] => if okR i = true ∧ okR j = true then some (rangeL i (j - i).toNat) else none
  | _ => none
def mItN (g : List D → Option (List D)) (args : MA) : En → R (List D) := fun ρ => (args ρ).bind fun ds ρ1 => ret (g ds) ρ1
def enumL (l : List D) : List D := l.zipIdx.map fun p => .tup [.int (p.2 : Nat), p.1]
section
variable {X : Cx} {G : Gd} {O : List Nat} {W : WX} {a b e : Expr} {es : List Expr} {me : ME} {mr : MA} {tg : Expr} {p pos tpos : Pos} {elts : List Expr} {kk : Nat}
theorem pi_or {t1 t2 : TI} (h1 : PI X tg e t1) (h2 : PI X tg e t2) : PI X tg e (fun σ H Q => t1 σ H Q ∨ t2 σ H Q) := ⟨fun pins s σ H Q I q => q.elim (h1.run pins s σ H Q I) (h2.run pins s σ H Q I)⟩
theorem sql_at {K : PySem.W.Frag} {A A' : Addr → Prop} {H H' : Hp} {a : Addr} {xs : List V} (h : SqLA K A H a xs) (t : Tr A A' H H') : SqL K H' a xs := (h.tr t).sq
theorem itok_list {K : PySem.W.Frag} {A : Addr → Prop} {H : Hp} {a : Addr} {xs : List V} {ds : List D} (h : SqLA K A H a xs) (r : RpA K A H xs ds) : ItOk K A H (Itl K a) ds := by
  intro A' H' t tk
  have h' := sql_at h t
  have hl := r.length
  refine ⟨fun i d e => ?_, ⟨xs, h', Nat.le_of_eq hl⟩⟩
  obtain ⟨v, e1, rv⟩ := r.get e
  refine ⟨⟨xs, v, h', e1⟩, fun x H'' ⟨eq, y⟩ => ?_⟩
  subst eq
  have := y xs h'
  rw [e1] at this
  cases this
  exact ⟨Same.refl _, rv.tr t⟩
theorem itok_tup {K : PySem.W.Frag} {A : Addr → Prop} {H : Hp} {a : Addr} {xs : List V} {ds : List D} (h : SqTA K A H a xs) (r : RpA K A H xs ds) : ItOk K A H (Itt K a) ds := by
  intro A' H' t tk
  have h' := (h.tr t).sq
  have hl := r.length
  refine ⟨fun i d e => ?_, ⟨xs, h', Nat.le_of_eq hl⟩⟩
  obtain ⟨v, e1, rv⟩ := r.get e
  refine ⟨⟨xs, v, h', e1⟩, fun x H'' ⟨eq, y⟩ => ?_⟩
  subst eq
  have := y xs h'
  rw [e1] at this
  cases this
  exact ⟨Same.refl _, rv.tr t⟩
theorem itok_str {K : PySem.W.Frag} {A : Addr → Prop} {H : Hp} (s : Str) : ItOk K A H (Its s) (chars s) := by
  intro A' H' t tk
  have hl : (chars s).length = s.cps.size := by unfold chars; rw [List.length_map, Array.length_toList]
  refine ⟨fun i d e => ?_, by show s.cps.size ≤ (chars s).length; omega⟩
  have hi := (List.getElem?_eq_some_iff.mp e).1
  refine ⟨by show i < s.cps.size; omega, fun x H'' ⟨eq, c, hc, hx⟩ => ?_⟩
  subst eq hx
  refine ⟨Same.refl _, ?_⟩
  unfold chars at e
  rw [List.getElem?_map, Array.getElem?_toList, hc] at e
  cases e
  exact .str _
theorem itok_rng {K : PySem.W.Frag} {A : Addr → Prop} {H : Hp} (lo : Int) (n : Nat) : ItOk K A H (Itr lo n) (rangeL lo n) := by
  intro A' H' t tk
  have hl : (rangeL lo n).length = n := by unfold rangeL; rw [List.length_map, List.length_range]
  refine ⟨fun i d e => ?_, by show n ≤ (rangeL lo n).length; omega⟩
  have hi := (List.getElem?_eq_some_iff.mp e).1
  refine ⟨by show i < n; omega, fun x H'' ⟨eq, hx⟩ => ?_⟩
  subst eq hx
  refine ⟨Same.refl _, ?_⟩
  unfold rangeL at e
  rw [List.getElem?_map, List.getElem?_range (by omega)] at e
  cases e
  exact .int _
theorem di_seq (he : DE X G O W e me) : DI X G O W tg e (mIter me) := by
  refine pi_imp (pi_or (pi_list he) (pi_or (pi_tup he) (pi_str he))) fun σ H Q ⟨A, ms, ρ, R, q⟩ => ?_
  unfold mIter at q
  cases hm : me ρ with
  | bad => rw [hm] at q; exact q.elim
  | ex x ρ1 =>
    rw [hm] at q
    exact .inl ⟨A, ms, ρ, R, by rw [hm]; exact q⟩
  | ok d ρ1 =>
    rw [hm] at q
    cases d with
    | lst l =>
      refine .inl ⟨A, ms, ρ, R, ?_⟩
      rw [hm]
      intro v H1 R1 k1 r1
      cases r1 with
      | lst h1 n1 rr => exact ⟨_, rfl, ⟨_, SqL.of h1⟩, q _ H1 R1 k1 (itok_list (.inl ⟨.inl h1, n1⟩) rr)⟩
    | scr l =>
      refine .inl ⟨A, ms, ρ, R, ?_⟩
      rw [hm]
      intro v H1 R1 k1 r1
      cases r1 with
      | scr h1 rr => exact ⟨_, rfl, ⟨_, h1.sq⟩, q _ H1 R1 k1 (itok_list h1 rr)⟩
    | tup l =>
      refine .inr (.inl ⟨A, ms, ρ, R, ?_⟩)
      rw [hm]
      intro v H1 R1 k1 r1
      cases r1 with
      | tup h1 rr => exact ⟨_, rfl, ⟨_, h1.sq⟩, q _ H1 R1 k1 (itok_tup h1 rr)⟩
    | str z =>
      refine .inr (.inr ⟨A, ms, ρ, R, ?_⟩)
      rw [hm]
      intro v H1 R1 k1 r1
      cases r1
      exact ⟨_, rfl, q _ H1 R1 k1 (itok_str z)⟩
    | _ => exact q.elim
theorem okR_ok {i : Int} (h : okR i = true) : -(2 ^ 62) ≤ i ∧ i < 2 ^ 62 := by
  unfold okR at h
  rw [Bool.and_eq_true] at h
  exact ⟨of_decide_eq_true h.1, of_decide_eq_true h.2⟩
theorem ite_l {α : Type} {c : Prop} [Decidable c] {x d : α} (h : (if c then some x else none) = some d) : c ∧ x = d := by
  by_cases q : c
  · rw [if_pos q] at h
    exact ⟨q, Option.some.inj h⟩
  · rw [if_neg q] at h
    cases h
theorem itn_go {t : TA} {g : List D → Option (List D)} {K : PySem.W.Frag} (ht : ∀ σ H Q, tA K G O W mr σ H Q → t σ H Q) {σ : L2.St} {H : Hp} {Q : It → Hp → Prop} {P : List V → Hp → Prop} (h : tI K G O W (mItN g mr) σ H Q)
    (w : ∀ A vs ds l H1, Trk A H1 → RpA K A H1 vs ds → g ds = some l → (∀ J, ItOk K A H1 J l → Q J H1) → P vs H1) : t σ H P := by
  obtain ⟨A, ms, ρ, R, q⟩ := h
  refine ht _ _ _ ⟨A, ms, ρ, R, q.bind.mono ?_⟩
  rintro vs H1 ⟨ds, ρ1, R1, k1, r1, q1⟩
  obtain ⟨l, hl, q2⟩ := rp_of (rel := fun H' J ds => ItOk K A H' J ds) R1 q1
  exact w A vs ds l H1 R1.trk r1 hl fun J it => q2 J H1 (Same.refl _) it
theorem di_range1 (hg : Gl X "range") (hm : X.mg "range" = none) (ha : DA X G O W [a] mr) (hs : starEach [a] X.env = [(false, eval a X.env)] := by rfl) : DI X G O W tg (.Call (.Name "range" p) [a] [] pos) (mItN gRange1 mr) := by
  refine pi_imp (pi_range1 hg hm ha hs) fun σ H Q h => itn_go (fun _ _ _ z => z) h fun A vs ds l H1 tk r hl q => ?_
  unfold gRange1 at hl
  split at hl
  · obtain ⟨hj, rfl⟩ := ite_l hl
    cases r with
    | cons r r' =>
      cases r'
      cases r
      exact ⟨_, rfl, (okR_ok hj).1, (okR_ok hj).2, q _ (itok_rng _ _)⟩
  · cases hl
theorem di_range2 (hg : Gl X "range") (hm : X.mg "range" = none) (ha : DA X G O W [a, b] mr) (hs : starEach [a, b] X.env = [(false, eval a X.env), (false, eval b X.env)] := by rfl) (hs2 : starEach [b] X.env = [(false, eval b X.env)] := by rfl) : DI X G O W tg (.Call (.Name "range" p) [a, b] [] pos) (mItN gRange2 mr) := by
  refine pi_imp (pi_range2 hg hm ha hs hs2) fun σ H Q h => itn_go (fun _ _ _ z => z) h fun A vs ds l H1 tk r hl q => ?_
  unfold gRange2 at hl
  split at hl
  · obtain ⟨hj, rfl⟩ := ite_l hl
    cases r with
    | cons r r' =>
      cases r' with
      | cons s s' =>
        cases s'
        cases r
        cases s
        exact ⟨_, _, rfl, ⟨(okR_ok hj.1).1, (okR_ok hj.1).2, (okR_ok hj.2).1, (okR_ok hj.2).2⟩, q _ (itok_rng _ _)⟩
  · cases hl
def wipeE (ρ : En) : List Nat → En
  | [] => ρ
  | v :: vs => (wipeE ρ vs).set v none
def restE (ρ0 : En) : List Nat → En → En
  | [], ρ => ρ
  | v :: vs, ρ => (restE ρ0 vs ρ).set v (match ρ0[v]? with
    | some o => o
    | none => none)
def lcLoop (vs : List Nat) (g : MG) (mt : MT) (me : ME) : List D → En → R (List D)
  | [], ρ => .ok [] ρ
  | d :: r, ρ => match g d (wipeE ρ vs) with
    | .ok _ ρ1 => match mt ρ1 with
      | .ok true ρ2 => match me ρ2 with
        | .ok y ρ3 => match lcLoop vs g mt me r ρ3 with
          | .ok ys ρ4 => .ok (y :: ys) ρ4
          | _ => .bad
        | _ => .bad
      | .ok false ρ2 => lcLoop vs g mt me r ρ2
      | _ => .bad
    | _ => .bad
def mLc (vs : List Nat) (mi : En → R (List D)) (g : MG) (mt : MT) (me : ME) : ME := fun ρ => (mi ρ).bind fun ds ρ1 => match lcLoop vs g mt me ds ρ1 with
  | .ok ys ρ2 => if ys.length ≤ sizeLine then .ok (.lst ys) (restE ρ1 vs ρ2) else .bad
  | _ => .bad
def mYes : MT := fun ρ => .ok true ρ
theorem RelS.unset {K : PySem.W.Frag} {A : Addr → Prop} {ms : Nat → Option Addr} {σ : L2.St} {H : Hp} {ρ : En} {i : Nat} (R : RelS K G O A ms σ H ρ) (hi : i ∉ O) : RelS K G O A ms (σ.set i none) H (ρ.set i none) := by
  have ne : ∀ {j : Nat}, j ∈ O → j ≠ i := fun {j} m z => hi (z ▸ m)
  have g : ∀ {j : Nat} {z : D}, j ∈ O → (ρ.set i none)[j]? = some (some z) → ρ[j]? = some (some z) := fun {j z} m e => by rw [set_get_ne (ne m)] at e; exact e
  exact {
    sub := R.sub
    trk0 := R.trk0
    trk := R.trk
    keep := R.keep
    len := by rw [List.length_set, List.length_set]; exact R.len
    fz := fun j z e n => by
      by_cases h : j = i
      · subst h
        by_cases hl : j < ρ.length
        · rw [List.getElem?_set_self hl] at e; cases e
        · rw [List.getElem?_eq_none (by rw [List.length_set]; omega)] at e; cases e
      · rw [set_get_ne h] at e
        obtain ⟨w, e1, q⟩ := R.fz j z e n
        exact ⟨w, by rw [List.getElem?_set_ne (Ne.symm h)]; exact e1, q⟩
    ow := fun j z e m => by
      obtain ⟨p, e0, e1, q⟩ := R.ow j z (g m e) m
      exact ⟨p, e0, by rw [List.getElem?_set_ne (Ne.symm (ne m))]; exact e1, q⟩
    inA := R.inA
    ok := R.ok
    dist := R.dist
    px := fun j a c e => let ⟨m, q⟩ := R.px j a c e; ⟨m, by rw [List.getElem?_set_ne (Ne.symm (ne m))]; exact q⟩
    io := fun p e => by
      obtain ⟨h1, h2, h3, z, h4⟩ := R.io p e
      exact ⟨h1, h2, h3, z, by rw [set_get_ne (ne h1)]; exact h4⟩ }
theorem RelS.wipe {K : PySem.W.Frag} {A : Addr → Prop} {ms : Nat → Option Addr} {σ : L2.St} {H : Hp} {ρ : En} (R : RelS K G O A ms σ H ρ) : ∀ vs : List Nat, (∀ i ∈ vs, i ∉ O) → RelS K G O A ms (L2.wipe σ vs) H (wipeE ρ vs)
  | [], _ => R
  | v :: vs, h => (RelS.wipe R vs fun i m => h i (List.mem_cons_of_mem _ m)).unset (h v List.mem_cons_self)
theorem restE_len (ρ0 ρ : En) : ∀ vs, (restE ρ0 vs ρ).length = ρ.length
  | [] => rfl
  | v :: vs => by unfold restE; rw [List.length_set, restE_len ρ0 ρ vs]
theorem restE_out {ρ0 ρ : En} {i : Nat} : ∀ {vs : List Nat}, i ∉ vs → (restE ρ0 vs ρ)[i]? = ρ[i]?
  | [], _ => rfl
  | v :: vs, h => by
    unfold restE
    rw [set_get_ne fun e => h (by rw [e]; exact List.mem_cons_self)]
    exact restE_out fun m => h (List.mem_cons_of_mem _ m)
theorem restE_in {ρ0 ρ : En} (hl : ρ.length = ρ0.length) {i : Nat} : ∀ {vs : List Nat}, i ∈ vs → (restE ρ0 vs ρ)[i]? = ρ0[i]?
  | v :: vs, h => by
    unfold restE
    by_cases e : i = v
    · subst e
      by_cases hi : i < ρ0.length
      · rw [List.getElem?_set_self (by rw [restE_len, hl]; exact hi), List.getElem?_eq_getElem hi]
      · rw [List.getElem?_eq_none (by rw [List.length_set, restE_len, hl]; omega), List.getElem?_eq_none (by omega)]
    · rw [set_get_ne e]
      exact restE_in hl ((List.mem_cons.mp h).resolve_left e)
theorem wipe_get {σ : L2.St} {i : Nat} : ∀ {vs : List Nat}, i ∉ vs → (L2.wipe σ vs)[i]? = σ[i]?
  | [], _ => rfl
  | v :: vs, h => by
    show ((L2.wipe σ vs).set v none)[i]? = _
    rw [List.getElem?_set_ne fun e => h (by rw [← e]; exact List.mem_cons_self)]
    exact wipe_get fun m => h (List.mem_cons_of_mem _ m)
theorem wipe_at {σ : L2.St} {i : Nat} : ∀ {vs : List Nat}, i ∈ vs → i < σ.length → (L2.wipe σ vs)[i]? = some none
  | v :: vs, h, hl => by
    show ((L2.wipe σ vs).set v none)[i]? = _
    by_cases e : i = v
    · subst e
      exact List.getElem?_set_self (by rw [L2.wipe_length]; exact hl)
    · rw [List.getElem?_set_ne fun q => e q.symm]
      exact wipe_at ((List.mem_cons.mp h).resolve_left e) hl
theorem wipe_eq {σ σ2 : L2.St} {vs : List Nat} (h : SlEq vs (L2.wipe σ vs) σ2) : L2.wipe σ2 vs = L2.wipe σ vs := by
  apply List.ext_getElem?
  intro i
  have hl : σ2.length = σ.length := by rw [h.1, L2.wipe_length]
  by_cases m : i ∈ vs
  · by_cases hi : i < σ.length
    · rw [wipe_at m (by rw [hl]; exact hi), wipe_at m hi]
    · rw [List.getElem?_eq_none (by rw [L2.wipe_length, hl]; omega), List.getElem?_eq_none (by rw [L2.wipe_length]; omega)]
  · rw [wipe_get m, h.2 i m]
theorem RelS.rest {K : PySem.W.Frag} {A A' : Addr → Prop} {ms : Nat → Option Addr} {σ : L2.St} {H1 H : Hp} {ρ0 ρ : En} {vs : List Nat} (hv : ∀ i ∈ vs, i ∉ O) (R0 : RelS K G O A' ms σ H1 ρ0) (t : Tr A' A H1 H) (R : RelS K G O A ms (L2.wipe σ vs) H (wipeE ρ vs)) (hl : ρ.length = ρ0.length) :
    RelS K G O A ms σ H (restE ρ0 vs ρ) := by
  have wE : ∀ {i : Nat}, i ∉ vs → (wipeE ρ vs)[i]? = ρ[i]? := fun {i} => by
    induction vs with
    | nil => exact fun _ => rfl
    | cons v vs ih =>
      intro h
      show ((wipeE ρ vs).set v none)[i]? = _
      rw [set_get_ne fun e => h (by rw [e]; exact List.mem_cons_self)]
      have : ∀ vs : List Nat, i ∉ vs → (wipeE ρ vs)[i]? = ρ[i]? := fun vs => by
        induction vs with
        | nil => exact fun _ => rfl
        | cons v vs ih2 =>
          intro h
          show ((wipeE ρ vs).set v none)[i]? = _
          rw [set_get_ne fun e => h (by rw [e]; exact List.mem_cons_self)]
          exact ih2 fun m => h (List.mem_cons_of_mem _ m)
      exact this vs fun m => h (List.mem_cons_of_mem _ m)
  have g : ∀ {i : Nat}, i ∈ O → (restE ρ0 vs ρ)[i]? = (wipeE ρ vs)[i]? := fun {i} m => by
    have nv : i ∉ vs := fun z => hv i z m
    rw [restE_out nv, wE nv]
  exact {
    sub := R.sub
    trk0 := R.trk0
    trk := R.trk
    keep := R.keep
    len := by rw [restE_len, hl]; exact R0.len
    fz := fun i d e n => by
      by_cases m : i ∈ vs
      · rw [restE_in hl m] at e
        obtain ⟨v, e1, q⟩ := R0.fz i d e n
        exact ⟨v, e1, q.tr t⟩
      · rw [restE_out m, ← wE m] at e
        obtain ⟨v, e1, q⟩ := R.fz i d e n
        rw [wipe_get m] at e1
        exact ⟨v, e1, q⟩
    ow := fun i d e m => by
      rw [g m] at e
      obtain ⟨p, e0, e1, q⟩ := R.ow i d e m
      rw [wipe_get fun z => hv i z m] at e1
      exact ⟨p, e0, e1, q⟩
    inA := R.inA
    ok := R.ok
    dist := R.dist
    px := R0.px
    io := fun p e => by
      obtain ⟨h1, h2, h3, z, h4⟩ := R.io p e
      exact ⟨h1, h2, h3, z, by rw [g h1]; exact h4⟩ }
end
end DL
namespace DL
open L2 PySem PySem.Spec PyProof.Rows
section
variable {X : Cx} {G : Gd} {O : List Nat} {W : WX}
theorem wipeE_out {ρ : En} {i : Nat} : ∀ {vs : List Nat}, i ∉ vs → (wipeE ρ vs)[i]? = ρ[i]?
  | [], _ => rfl
  | v :: vs, h => by
    show ((wipeE ρ vs).set v none)[i]? = _
    rw [set_get_ne fun e => h (by rw [e]; exact List.mem_cons_self)]
    exact wipeE_out fun m => h (List.mem_cons_of_mem _ m)
theorem wipeE_len (ρ : En) : ∀ vs, (wipeE ρ vs).length = ρ.length
  | [] => rfl
  | v :: vs => by
    show ((wipeE ρ vs).set v none).length = _
    rw [List.length_set, wipeE_len ρ vs]
theorem RelS.rewipe {K : PySem.W.Frag} {A : Addr → Prop} {ms : Nat → Option Addr} {σ σ2 : L2.St} {H : Hp} {ρ : En} {vs : List Nat} (hv : ∀ i ∈ vs, i ∉ O) (e : SlEq vs (L2.wipe σ vs) σ2) (R : RelS K G O A ms σ2 H ρ) : RelS K G O A ms (L2.wipe σ vs) H (wipeE ρ vs) := by
  rw [← wipe_eq e]
  exact R.wipe vs hv
theorem lc_goes {K : PySem.W.Frag} {A : Addr → Prop} {ms : Nat → Option Addr} {σ : L2.St} {H1 : Hp} {ρ1 ρf : En} {vs : List Nat} {g : MG} {mt : MT} {me : ME} {tt : TT} {J : It} {ds ys : List D} {Q : VK} (hv : ∀ i ∈ vs, i ∉ O)
    (htt : ∀ σ H Q, tT K G O W0 mt σ H Q → tt σ H Q) (R1 : RelS K G O A ms σ H1 ρ1) (it : ItOk K A H1 J ds) (hl : lcLoop vs g mt me ds ρ1 = .ok ys ρf) (hz : ys.length ≤ sizeLine)
    (q : ∀ p H', RelS K G O A ms σ H' (restE ρ1 vs ρf) → RelS K G O (fun a => A a ∨ a = p) ms σ H' (restE ρ1 vs ρf) → Kp O ms H1 H' → H1 p = none → Own K (fun a => A a ∨ a = p) H' p (.lst ys) → Q (.ref p) H') :
    ∀ L, H1 L = none → ∃ Wv : Nat → Nat → Hp → Prop, (∃ m, Wv 0 m (upd H1 L (.lst []))) ∧ ∀ i m H, Wv i m H →
      (J.stop i H ∧ Q (.ref L) H) ∨ (J.go i H ∧ ∃ Nx : Hp → Prop, (∀ H', Nx H' → ∃ m', m' < m ∧ Wv (i + 1) m' H') ∧ ∀ x H', J.yld i H x H' → tG K G O vs g x (L2.wipe σ vs) H' fun σ2 H2 => L2.wipe σ2 vs = L2.wipe σ vs ∧ tt σ2 H2 fun b H3 =>
        if b = true then tE K G O W0 me σ2 H3 fun y H4 => ∃ acc, H4 L = some (.lst acc) ∧ acc.length < sizeLine ∧ Nx (upd H4 L (.lst (acc ++ [y]))) else Nx H3) := by
  intro L hL
  have s0 : Same H1 (upd H1 L (.lst [])) := same_upd hL
  have t0 : Tr A (fun a => A a ∨ a = L) H1 (upd H1 L (.lst [])) := fun a u e n => ⟨s0 _ _ e, fun z => z.elim n fun z => by rw [z, hL] at e; cases e⟩
  have R2 : RelS K G O (fun a => A a ∨ a = L) ms σ (upd H1 L (.lst [])) ρ1 := R1.grow hL s0 upd_same
  have nL : ∀ i ∈ O, ms i ≠ some L := R1.msne hL
  refine ⟨fun i m H => i ≤ ds.length ∧ m = ds.length - i ∧ (∃ ρi acc y0 rest, RelS K G O (fun a => A a ∨ a = L) ms (L2.wipe σ vs) H (wipeE ρi vs) ∧ (∀ a o, (upd H1 L (.lst [])) a = some o → a ≠ L → (∀ i ∈ O, ms i ≠ some a) → H a = some o) ∧ H L = some (.lst acc) ∧ RpA K (fun a => A a ∨ a = L) H acc y0 ∧
    lcLoop vs g mt me (ds.drop i) ρi = .ok rest ρf ∧ ys = y0 ++ rest ∧ ρi.length = ρ1.length), ⟨ds.length, Nat.zero_le _, rfl, ρ1, [], [], ys, R2.wipe vs hv, fun _ _ e _ _ => e, upd_same, .nil, hl, rfl, rfl⟩, ?_⟩
  rintro i m H ⟨hi, rfl, ρi, acc, y0, rest, R, k, hacc, racc, hrest, hys, hlen⟩
  have kA : Tr A (fun a => A a ∨ a = L) H1 H := fun a u e n => by
    have nl : a ≠ L := fun z => by rw [z, hL] at e; cases e
    exact ⟨k a u (s0 _ _ e) nl fun i m z => n (R1.inA i a m z), fun z => z.elim n nl⟩
  obtain ⟨goes, stops⟩ := it _ H kA R.trk
  by_cases hlt : i < ds.length
  · have hd : ds[i]? = some ds[i] := List.getElem?_eq_getElem hlt
    obtain ⟨go, yl⟩ := goes i _ hd
    have e : ds.drop i = ds[i] :: ds.drop (i + 1) := List.drop_eq_getElem_cons hlt
    rw [e] at hrest
    refine .inr ⟨go, fun H' => (∃ ρi acc y0 rest, RelS K G O (fun a => A a ∨ a = L) ms (L2.wipe σ vs) H' (wipeE ρi vs) ∧ (∀ a o, (upd H1 L (.lst [])) a = some o → a ≠ L → (∀ i ∈ O, ms i ≠ some a) → H' a = some o) ∧ H' L = some (.lst acc) ∧ RpA K (fun a => A a ∨ a = L) H' acc y0 ∧
      lcLoop vs g mt me (ds.drop (i + 1)) ρi = .ok rest ρf ∧ ys = y0 ++ rest ∧ ρi.length = ρ1.length), fun H' w => ⟨ds.length - (i + 1), by omega, hlt, rfl, w⟩, fun x H3 hy => ?_⟩
    obtain ⟨s3, rx⟩ := yl x H3 hy
    have R3 := R.same s3
    refine ⟨_, ms, wipeE ρi vs, ds[i], R3, rx, ?_⟩
    unfold lcLoop at hrest
    cases hg : g ds[i] (wipeE ρi vs) with
    | bad => rw [hg] at hrest; cases hrest
    | ex y ρ2 => rw [hg] at hrest; cases hrest
    | ok u ρ2 =>
      rw [hg] at hrest
      intro σ4 H4 e4 R4 k4
      refine ⟨wipe_eq e4, htt _ _ _ ⟨_, ms, ρ2, R4, ?_⟩⟩
      cases hmt : mt ρ2 with
      | bad => simp only [hmt] at hrest; cases hrest
      | ex y ρ3 => simp only [hmt] at hrest; cases hrest
      | ok b ρ3 =>
        simp only [hmt] at hrest
        intro b' H5 R5 k5 hb
        cases hb
        have len5 : ρ3.length = ρ1.length := by rw [← R5.len, e4.1, L2.wipe_length, R1.len]
        have k5' : ∀ a o, (upd H1 L (.lst [])) a = some o → a ≠ L → (∀ i ∈ O, ms i ≠ some a) → H5 a = some o := fun a o h1 h2 h3 => k5 a o (k4 a o (s3 _ _ (k a o h1 h2 h3)) h3) h3
        have acc5 : H5 L = some (.lst acc) := k5 _ _ (k4 _ _ (s3 _ _ hacc) nL) nL
        have tr5 : Tr (fun a => A a ∨ a = L) (fun a => A a ∨ a = L) H H5 := ((Tr.same s3).trans (R.kt k4)).trans (R.kt k5)
        cases b with
        | false =>
          rw [if_neg Bool.false_ne_true]
          exact ⟨ρ3, acc, y0, rest, R5.rewipe hv e4, k5', acc5, racc.tr tr5, hrest, hys, len5⟩
        | true =>
          rw [if_pos rfl]
          refine ⟨_, ms, ρ3, R5, ?_⟩
          cases hme : me ρ3 with
          | bad => simp only [hme] at hrest; cases hrest
          | ex y ρ4 => simp only [hme] at hrest; cases hrest
          | ok y ρ4 =>
            simp only [hme] at hrest
            cases hr : lcLoop vs g mt me (ds.drop (i + 1)) ρ4 with
            | bad => simp only [hr] at hrest; cases hrest
            | ex z ρ5 => simp only [hr] at hrest; cases hrest
            | ok ys' ρ5 =>
              simp only [hr] at hrest
              cases hrest
              intro w H6 R6 k6 rw6
              have acc6 : H6 L = some (.lst acc) := k6 _ _ acc5 nL
              have al : (fun a => A a ∨ a = L) L := .inr rfl
              have lenacc : acc.length < sizeLine := by
                have := racc.length
                rw [hys, List.length_append, List.length_cons] at hz
                omega
              refine ⟨acc, acc6, lenacc, ρ4, acc ++ [w], y0 ++ [y], ys', ?_, ?_, upd_same, ?_, hr, by rw [hys]; simp, by rw [← R6.len, e4.1, L2.wipe_length, R1.len]⟩
              · -- the new list grew: no slot's own
                have R7 := R6.rewipe hv e4
                have tr7 : Tr (fun a => A a ∨ a = L) (fun a => A a ∨ a = L) H6 (upd H6 L (.lst (acc ++ [w]))) := fun a o e n => ⟨upd_out a o e fun z => n (.inr z), n⟩
                exact {
                  sub := R7.sub
                  trk0 := R7.trk0
                  trk := fun a z => by
                    by_cases h : a = L
                    · rw [h]; exact ⟨_, upd_same, fun _ z => nomatch z⟩
                    · obtain ⟨o, e, n⟩ := R7.trk a z
                      exact ⟨o, upd_out a o e h, n⟩
                  keep := fun a o e n => by
                    have := R7.keep a o e n
                    refine upd_out a o this fun z => ?_
                    have h0 := R1.keep a o e n
                    rw [z, hL] at h0
                    cases h0
                  len := R7.len
                  fz := fun j d e n => let ⟨v, e1, q⟩ := R7.fz j d e n; ⟨v, e1, q.tr tr7⟩
                  ow := fun j d e n => let ⟨p, e0, e1, q⟩ := R7.ow j d e n; ⟨p, e0, e1, q.tr tr7 fun o z => upd_out _ _ z fun h => nL j n (h ▸ e0)⟩
                  inA := R7.inA
                  ok := R7.ok
                  dist := R7.dist
                  px := R7.px
                  io := R7.io }
              · exact fun a o h1 h2 h3 => upd_out a o (k6 a o (k5' a o h1 h2 h3) h3) h2
              · exact ((racc.tr (tr5.trans (R5.kt k6))).upd al).app (.cons (rw6.upd al) .nil)
  · have e : i = ds.length := by omega
    subst e
    rw [List.drop_length] at hrest
    cases hrest
    rw [List.append_nil] at hys
    subst hys
    refine .inl ⟨stops, ?_⟩
    have Rf : RelS K G O (fun a => A a ∨ a = L) ms σ H (restE ρ1 vs ρf) := RelS.rest hv R1 kA R hlen
    have kf : Kp O ms H1 H := fun a o e n => k a o (s0 _ _ e) (fun z => by rw [z, hL] at e; cases e) n
    exact q L H (Rf.less (fun a z => .inl z) R1.sub fun j p m z => R1.inA j p m z) Rf kf hL (.lst hacc racc)
abbrev ownS (own : List (Str × Nat)) : List Nat := own.map (·.2)
theorem lc_go {K : PySem.W.Frag} {own : List (Str × Nat)} {mi : En → R (List D)} {g : MG} {mt : MT} {me : ME} {tt : TT} (hv : (ownS own).all (fun i => !O.contains i) = true) (htt : ∀ σ H Q, tT K G O W0 mt σ H Q → tt σ H Q) {σ : L2.St} {H : Hp} {Q : VK} (h : tF K G O W (mLc (ownS own) mi g mt me) σ H Q) :
    tLc (tI K G O W mi) (tG K G O (ownS own) g) tt (tE K G O W0 me) (own.map (·.2)) σ H Q := by
  have hv' : ∀ i ∈ ownS own, i ∉ O := fun i m z => by
    have := List.all_eq_true.mp hv i m
    rw [List.contains_iff_mem.mpr z] at this
    cases this
  obtain ⟨A, ms, ρ, R, q⟩ := h
  refine ⟨A, ms, ρ, R, ?_⟩
  unfold mLc at q
  cases hm : mi ρ with
  | bad => rw [hm] at q; exact q.elim
  | ex x ρ1 => rw [hm] at q; exact q
  | ok ds ρ1 =>
    rw [hm] at q
    intro J H1 R1 k1 itok
    have q1 : FPost K G O W A ms σ H Q (match lcLoop (ownS own) g mt me ds ρ1 with
      | .ok ys ρ2 => if ys.length ≤ sizeLine then .ok (.lst ys) (restE ρ1 (ownS own) ρ2) else .bad
      | _ => .bad) := q
    cases hl : lcLoop (ownS own) g mt me ds ρ1 with
    | bad => rw [hl] at q1; exact q1.elim
    | ex x ρ2 => rw [hl] at q1; exact q1.elim
    | ok ys ρ2 =>
      rw [hl] at q1
      have q2 : FPost K G O W A ms σ H Q (if ys.length ≤ sizeLine then .ok (.lst ys) (restE ρ1 (ownS own) ρ2) else .bad) := q1
      split at q2
      · rename_i hz
        exact lc_goes hv' htt R1 itok hl hz fun p H' r1 r2 k hp ow => q2 p H' r1 r2 (k1.trans k) (Kp.none R1 k1 hp) ow
      · exact q2.elim
theorem df_lc {elt tg iter : Expr} {ifs : List Expr} {scope : Scope} {own : List (Str × Nat)} {pos : Pos} {mi : En → R (List D)} {g : MG} {mt : MT} {me : ME} {tt : TT} (hc : X.calm = true) (hN : X.N.Nodup) (hv : (ownS own).all (fun i => !O.contains i) = true)
    (hi : DI X G O W tg iter mi) (ok : BlkOk X.N X.env.scope scope own)
    (hg : ∀ (s : Shared) (H : Hp) (C : Addr) (cl : List (Str × Addr)) (fp : List Addr), DG (X.blk s H scope (compEnvC scope cl C X.env) fp) G O (ownS own) tg g)
    (ht : ∀ (s : Shared) (H : Hp) (C : Addr) (cl : List (Str × Addr)) (fp : List Addr), PTs (X.blk s H scope (compEnvC scope cl C X.env) fp) ifs tt) (htt : ∀ σ H Q, tT X.K G O W0 mt σ H Q → tt σ H Q)
    (he : ∀ (s : Shared) (H : Hp) (C : Addr) (cl : List (Str × Addr)) (fp : List Addr), DE (X.blk s H scope (compEnvC scope cl C X.env) fp) G O W0 elt me) (hs : ∀ x, foldedSetIterable iter X.env x = pure x := by intro _; rfl) :
    DF X G O W (.ListComp elt [⟨tg, iter, ifs, 0⟩] scope pos) (mLc (ownS own) mi g mt me) :=
  pe_imp (pe_lc (te := tE X.K G O W0 me) (tt := tt) (g := tG X.K G O (ownS own) g) hc hN hi ok hg ht he hs) fun _ _ _ h => lc_go hv htt h
theorem tYes_go {K : PySem.W.Frag} : ∀ σ H Q, tT K G O W0 mYes σ H Q → tYes σ H Q := fun σ H Q ⟨A, ms, ρ, R, q⟩ => q true H R Kp.refl rfl
end
end DL
namespace DL
open L2 PySem PySem.Spec PyProof.Rows
inductive Bx where
  | ex (m : ME)
  | ow (j : Nat)
def evB : Bx → ME
  | .ex m => m
  | .ow j => fun ρ => match getO ρ j with
    | some d => .ok d ρ
    | none => .bad
def rdB (b : Bx) (d : D) (ρ : En) : Option D := match b with
  | .ex _ => some d
  | .ow j => getO ρ j
def m2B (g : D → D → Option D) (a b : Bx) : ME := fun ρ => (evB a ρ).bind fun x ρ1 => (evB b ρ1).bind fun y ρ2 => ret ((rdB a x ρ2).bind fun x' => g x' y) ρ2
def DB (X : Cx) (G : Gd) (O : List Nat) (W : WX) (e : Expr) (b : Bx) : Prop := match b with
  | .ex m => DE X G O W e m
  | .ow j => O.contains j = true ∧ PE X e (tVar j)
section
variable {X : Cx} {G : Gd} {O : List Nat} {W : WX} {a b c e : Expr} {es : List Expr} {ma mb mc : ME} {ba bb : Bx} {mr : MA} {pos p : Pos} {x : Str}
theorem db_e (h : DE X G O W e ma) : DB X G O W e (.ex ma) := h
theorem db_o {j : Nat} (hj : O.contains j = true) (hy : PE X e (tVar j)) : DB X G O W e (.ow j) := ⟨hj, hy⟩
def tBx (K : PySem.W.Frag) (G : Gd) (O : List Nat) (W : WX) : Bx → TE
  | .ex m => tE K G O W m
  | .ow j => tVar j
theorem DB.pe (h : DB X G O W e ba) : PE X e (tBx X.K G O W ba) := by
  cases ba with
  | ex m => exact h
  | ow j => exact h.2
theorem own_at {K : PySem.W.Frag} {A : Addr → Prop} {ms : Nat → Option Addr} {σ : L2.St} {H : Hp} {ρ : En} {j : Nat} {d : D} (R : RelS K G O A ms σ H ρ) (hj : O.contains j = true) (h : getO ρ j = some d) : ∃ p, ms j = some p ∧ σ[j]? = some (some (.ref p)) ∧ Own K A H p d := R.ow j d (getO_some h) (List.contains_iff_mem.mp hj)
theorem own_b {K : PySem.W.Frag} {A : Addr → Prop} {H : Hp} {q : Addr} {d : D} (h : Own K A H q d) (n : ∀ c fs, d ≠ .obj c fs) : RpB K A H (.ref q) d := by
  cases h with
  | lst e r => exact .own e r
  | dK e k r => exact .ownK e k r
  | dT e k r => exact .ownT e k r
  | obj _ _ => exact absurd rfl (n _ _)
theorem op2B_go {r : R2} {g : D → D → Option D} {K : PySem.W.Frag} (hA : ∀ j, ba = .ow j → O.contains j = true) (hB : ∀ j, bb = .ow j → O.contains j = true) (hl : ∀ c fs z, g (.obj c fs) z = none) (hr' : ∀ c fs z, g z (.obj c fs) = none)
    (hr : ∀ x y H Q, rD2 K g x y H Q → r x y H Q) {σ : L2.St} {H : Hp} {Q : VK} (h : tE K G O W (m2B g ba bb) σ H Q) : tOp r (tBx K G O W ba) (tBx K G O W bb) σ H Q := by
  obtain ⟨A, ms, ρ, R, q⟩ := h
  -- the second operand and the operation, the first one lying as x at the end
  have snd : ∀ (x : V) (d0 : D) (ρ1 : En) (H1 : Hp), RelS K G O A ms σ H1 ρ1 → Kp O ms H H1 →
      (∀ ρ2 H2 d', RelS K G O A ms σ H2 ρ2 → Kp O ms H1 H2 → rdB ba d0 ρ2 = some d' → (∀ c fs, d' ≠ .obj c fs) → RpB K A H2 x d') →
      RPost K G O W A ms σ H1 (Rp K A) Q ((evB bb ρ1).bind fun y ρ2 => ret ((rdB ba d0 ρ2).bind fun x' => g x' y) ρ2) → tBx K G O W bb σ H1 fun y H2 => r x y H2 Q := by
    intro x d0 ρ1 H1 R1 k1 hx q1
    have fin : ∀ (y : V) (d2 : D) (ρ2 : En) (H2 : Hp), RelS K G O A ms σ H2 ρ2 → Kp O ms H1 H2 → ((∀ c fs, d2 ≠ .obj c fs) → RpB K A H2 y d2) → RPost K G O W A ms σ H2 (Rp K A) Q (ret ((rdB ba d0 ρ2).bind fun x' => g x' d2) ρ2) → r x y H2 Q := by
      intro y d2 ρ2 H2 R2' k2 r2 q2
      obtain ⟨z, hz, q3⟩ := rp_of R2' q2
      cases hd : rdB ba d0 ρ2 with
      | none => rw [hd] at hz; cases hz
      | some d' =>
        rw [hd] at hz
        have hz' : g d' d2 = some z := hz
        have n1 : ∀ c fs, d' ≠ .obj c fs := fun c fs w => by rw [w, hl] at hz'; cases hz'
        have n2 : ∀ c fs, d2 ≠ .obj c fs := fun c fs w => by rw [w, hr'] at hz'; cases hz'
        exact hr _ _ _ _ ⟨A, d', d2, z, R2'.trk, hx ρ2 H2 d' R2' k2 hd n1, r2 n2, hz', q3⟩
    cases bb with
    | ex m =>
      refine ⟨A, ms, ρ1, R1, RPost.mono (RPost.bind q1) ?_⟩
      rintro y H2 ⟨d2, ρ2, R2', k2, r2, q2⟩
      exact fin y d2 ρ2 H2 R2' k2 (fun _ => .of r2) q2
    | ow j =>
      unfold evB at q1
      cases hj : getO ρ1 j with
      | none => simp only [hj] at q1; exact q1.elim
      | some d2 =>
        simp only [hj] at q1
        obtain ⟨pj, h1, h2, h3⟩ := own_at R1 (hB j rfl) hj
        refine ⟨_, h2, fin _ d2 ρ1 H1 R1 Kp.refl (fun n => ?_) q1⟩
        exact own_b h3 n
  cases ba with
  | ex m =>
    refine ⟨A, ms, ρ, R, RPost.mono (RPost.bind q) ?_⟩
    rintro x H1 ⟨d, ρ1, R1, k1, r1, q1⟩
    exact snd x d ρ1 H1 R1 k1 (fun ρ2 H2 d' R2' k2 e _ => by cases e; exact .of (r1.tr (R1.kt k2))) q1
  | ow j =>
    have q' : RPost K G O W A ms σ H (Rp K A) Q ((evB (.ow j) ρ).bind fun x ρ1 => (evB bb ρ1).bind fun y ρ2 => ret ((rdB (.ow j) x ρ2).bind fun x' => g x' y) ρ2) := q
    have e1 : evB (.ow j) ρ = (match getO ρ j with | some d => .ok d ρ | none => .bad) := rfl
    rw [e1] at q'
    cases hj : getO ρ j with
    | none => simp only [hj] at q'; exact q'.elim
    | some d =>
      simp only [hj] at q'
      obtain ⟨pj, h1, h2, h3⟩ := own_at R (hA j rfl) hj
      refine ⟨_, h2, snd _ d ρ H R Kp.refl (fun ρ2 H2 d' R2' k2 e n => ?_) q'⟩
      obtain ⟨pj', h1', h2', h3'⟩ := own_at R2' (hA j rfl) e
      rw [h1] at h1'
      cases h1'
      exact own_b h3' n
theorem DB.own (h : DB X G O W e ba) : ∀ j, ba = .ow j → O.contains j = true := fun j w => by subst w; exact h.1
structure NoObj (g : D → D → Option D) : Prop where
  l : ∀ c fs z, g (.obj c fs) z = none
  r : ∀ c fs z, g z (.obj c fs) = none
theorem de_ixB {g : D → D → Option D} (hr : IxR X (rD2 X.K g)) (n : NoObj g) (ha : DB X G O W a ba) (hb : DB X G O W b bb) (hs : PlainIx b) : DE X G O W (.Subscript a b pos) (m2B g ba bb) :=
  pe_imp (pe_ix hr ha.pe hb.pe hs) fun _ _ _ h => op2B_go ha.own hb.own n.l n.r (fun _ _ _ _ z => z) h
theorem dt_cmpB {op : CmpOp} {g : D → D → Option D} (ho : OpR X (compareOp op) (rD2 X.K g)) (n : NoObj g) (ha : DB X G O W a ba) (hb : DB X G O W b bb) (hm : behindInMarks op b = false) : DT X G O W (.Compare a [op] [b] pos) (mTest (m2B g ba bb)) :=
  pt_imp (pt_cmpR ho ha.pe hb.pe hm) fun _ _ _ h => test_go (fun _ _ _ z => op2B_go ha.own hb.own n.l n.r (fun _ _ _ _ z => z) z) h
def mTruO (j : Nat) : MT := fun ρ => match getO ρ j with
  | some (.lst l) => .ok (!l.isEmpty) ρ
  | _ => .bad
theorem dt_truO {j : Nat} (hj : O.contains j = true) (ha : PE X a (tVar j)) (he : ∀ whole, isTrue a X.env whole = (do let v ← whole; standAt a.pos; holding [v] (truthy v)) := by intro _; rfl) : DT X G O W a (mTruO j) := by
  refine pt_imp (pt_truth ha he) fun σ H Q ⟨A, ms, ρ, R, q⟩ => ?_
  unfold mTruO at q
  split at q
  · rename_i l h
    obtain ⟨pj, h1, h2, h3⟩ := own_at R hj h
    refine ⟨_, h2, !l.isEmpty, ?_, q _ H R Kp.refl rfl⟩
    cases h3 with
    | lst e r =>
      refine .inl ⟨_, SqL.of e, ?_⟩
      cases r <;> rfl
  · exact q.elim
def gIx (a b : D) : Option D := match a, b with
  | .lst l, .int i => L2.atI l i
  | .scr l, .int i => L2.atI l i
  | .tup l, .int i => L2.atI l i
  | .str z, .int i => if z.length ≤ sizeLine then (L2.atI z.cps.toList i).map fun c => .str ⟨#[c]⟩ else none
  | _, _ => none
theorem gIx_no : NoObj gIx := ⟨fun _ _ z => by cases z <;> rfl, fun _ _ z => by cases z <;> rfl⟩
theorem at_rp {K : PySem.W.Frag} {A : Addr → Prop} {H : Hp} {xs : List V} {ds : List D} {i : Int} {d : D} (h : RpA K A H xs ds) (e : L2.atI ds i = some d) : ∃ v, L2.atI xs i = some v ∧ Rp K A H v d := by
  unfold L2.atI at e ⊢
  rw [h.length]
  cases hj : ixN ds.length i with
  | none => rw [hj] at e; cases e
  | some j =>
    rw [hj] at e
    exact h.get (show ds[j]? = some d from e)
theorem ix_d : IxR X (rD2 X.K gIx) := by
  intro value slice pins s σ H x y v u Q I rx ry ⟨A, a, b, d, t, pa, pb, e, q⟩ hs
  cases a with
  | lst l =>
    cases b with
    | int i =>
      obtain ⟨p, xs, rfl, h1, r1⟩ := pa.lst
      obtain ⟨w, hw, rw'⟩ := at_rp r1 (show L2.atI l i = some d from e)
      rw [pb.int] at ry
      exact ix_list value slice pins s σ H _ _ v u Q I rx ry ⟨p, xs, i, w, rfl, rfl, SqL.of h1, hw, q w H (Same.refl _) rw'⟩ hs
    | _ => cases e
  | scr l =>
    cases b with
    | int i =>
      obtain ⟨p, xs, rfl, h1, r1⟩ := pa.scr
      obtain ⟨w, hw, rw'⟩ := at_rp r1 (show L2.atI l i = some d from e)
      rw [pb.int] at ry
      exact ix_list value slice pins s σ H _ _ v u Q I rx ry ⟨p, xs, i, w, rfl, rfl, h1.sq, hw, q w H (Same.refl _) rw'⟩ hs
    | _ => cases e
  | tup l =>
    cases b with
    | int i =>
      obtain ⟨p, xs, rfl, h1, r1⟩ := pa.tup
      obtain ⟨w, hw, rw'⟩ := at_rp r1 (show L2.atI l i = some d from e)
      rw [pb.int] at ry
      exact ix_tup value slice pins s σ H _ _ v u Q I rx ry ⟨p, xs, i, w, rfl, rfl, h1.sq, hw, q w H (Same.refl _) rw'⟩ hs
    | _ => cases e
  | str z =>
    cases b with
    | int i =>
      have e' : (if z.length ≤ sizeLine then (L2.atI z.cps.toList i).map (fun c => D.str ⟨#[c]⟩) else none) = some d := e
      split at e'
      · rename_i hz
        obtain ⟨c, hc, rfl⟩ := map_some e'
        rw [pa.str] at rx
        rw [pb.int] at ry
        exact ix_str value slice pins s σ H _ _ v u Q I rx ry ⟨z, i, c, rfl, rfl, hz, hc, q _ H (Same.refl _) (.str _)⟩ hs
      · cases e'
    | _ => cases e
  | _ => cases b <;> cases e
def cutD (xs : List D) (lo hi : Option Int) : List D := (xs.drop (HT.sIx xs.length 0 lo)).take (HT.sIx xs.length xs.length hi - HT.sIx xs.length 0 lo)
def gSl (d : D) (lo hi : Option Int) : Option D := match d with
  | .lst l => some (.lst (cutD l lo hi))
  | .tup l => some (.tup (cutD l lo hi))
  | .str z => if z.length ≤ sizeLine then some (.str (L2.cutS z lo hi)) else none
  | _ => none
theorem cut_rp {K : PySem.W.Frag} {A : Addr → Prop} {H : Hp} {xs : List V} {ds : List D} (h : RpA K A H xs ds) (lo hi : Option Int) : RpA K A H (L2.cutV xs lo hi) (cutD ds lo hi) := by
  unfold L2.cutV cutD
  rw [h.length]
  exact (h.drop _).take _
def rSlD (K : PySem.W.Frag) : V → Option Int → Option Int → Hp → VK → Prop := fun x lo hi H Q => ∃ A a d, Trk A H ∧ RpB K A H x a ∧ gSl a lo hi = some d ∧ ∀ v H', Same H H' → Rp K A H' v d → Fr K A H H' v d → Q v H'
theorem cutD_whole {l : List D} {lo hi : Option Int} (h : HT.sIx l.length 0 lo = 0 ∧ HT.sIx l.length l.length hi = l.length) : cutD l lo hi = l := by
  unfold cutD
  rw [h.1, h.2, List.drop_zero, Nat.sub_zero, List.take_length]
theorem sl_d : SlR X (rSlD X.K) := by
  intro pins s σ H x v vl vu lo hi sl Q I rx hs pl pu ⟨A, a, d, t, pa, e, q⟩
  cases a with
  | lst l =>
    cases e
    obtain ⟨p, xs, rfl, h1, r1⟩ := pa.lst
    exact sl_list pins s σ H _ v vl vu lo hi sl Q I rx hs pl pu ⟨p, xs, rfl, SqL.of h1, fun r hr => q _ _ (same_upd hr) (new_lst t (cut_rp r1 lo hi) hr) (new_fr t (cut_rp r1 lo hi) hr)⟩
  | tup l =>
    cases e
    obtain ⟨p, xs, rfl, h1, r1⟩ := pa.tup
    have hl := r1.length
    refine sl_tupA pins s σ H _ v vl vu lo hi sl Q I rx hs pl pu ⟨p, xs, rfl, h1.sq, fun w => ?_, fun _ r hr => q _ _ (same_upd hr) (new_tup t (cut_rp r1 lo hi) hr) (no_fr fun _ => nofun)⟩
    rw [hl] at w
    rw [cutD_whole w] at q
    exact q _ _ (Same.refl _) (.tup h1 r1) (no_fr fun _ => nofun)
  | str z =>
    obtain ⟨hz, rfl⟩ := ite_d (x := .str (L2.cutS z lo hi)) e
    rw [pa.str] at rx
    exact sl_str pins s σ H _ v vl vu lo hi sl Q I rx hs pl pu ⟨z, rfl, hz, q _ H (Same.refl _) (.str _) (no_fr fun _ => nofun)⟩
  | _ => cases e
abbrev MP := En → R (Option Int)
def mNoP : MP := fun ρ => .ok none ρ
def asI : D → Option (Option Int)
  | .int i => some (some i)
  | _ => none
def mPart (m : ME) : MP := fun ρ => (m ρ).bind fun d ρ1 => ret (asI d) ρ1
def tP (K : PySem.W.Frag) (G : Gd) (O : List Nat) (W : WX) (m : MP) : TO := fun σ H Q => ∃ A ms ρ, RelS K G O A ms σ H ρ ∧ RPost K G O W A ms σ H (fun _ => Eq) Q (m ρ)
def DP (X : Cx) (G : Gd) (O : List Nat) (W : WX) (e : Option Expr) (m : MP) : Prop := PO X e (tP X.K G O W m)
theorem po_imp {e : Option Expr} {t t' : TO} (h : PO X e t) (w : ∀ σ H Q, t' σ H Q → t σ H Q) : PO X e t' := ⟨fun pins s σ H Q I q => h.run pins s σ H Q I (w σ H Q q)⟩
theorem dp_no : DP X G O W none mNoP := po_imp po_none fun σ H Q ⟨A, ms, ρ, R, q⟩ => q none H R Kp.refl rfl
theorem dp_e (h : DE X G O W e ma) : DP X G O W (some e) (mPart ma) := by
  refine po_imp (po_some h) fun σ H Q ⟨A, ms, ρ, R, q⟩ => ⟨A, ms, ρ, R, RPost.mono (RPost.bind q) ?_⟩
  rintro x H1 ⟨d, ρ1, R1, k1, r1, q1⟩
  obtain ⟨z, hz, q2⟩ := rp_of (rel := fun _ => @Eq (Option Int)) R1 q1
  cases d with
  | int i =>
    cases hz
    cases r1
    exact ⟨i, rfl, q2 _ H1 (Same.refl _) rfl⟩
  | _ => cases hz
def mSl (b : Bx) (l h : MP) : ME := fun ρ => (evB b ρ).bind fun x ρ1 => (l ρ1).bind fun lo ρ2 => (h ρ2).bind fun hi ρ3 => ret ((rdB b x ρ3).bind fun x' => gSl x' lo hi) ρ3
theorem FPost.from {K : PySem.W.Frag} {A : Addr → Prop} {ms : Nat → Option Addr} {σ : L2.St} {H H1 : Hp} {ρ1 : En} {Q : VK} {r : R D} (R : RelS K G O A ms σ H1 ρ1) (k : Kp O ms H H1) (h : FPost K G O W A ms σ H Q r) : FPost K G O W A ms σ H1 Q r := by
  cases r with
  | ok d ρ => exact fun p H' R1 R2 k' hp ow => h p H' R1 R2 (k.trans k') (Kp.none R k hp) ow
  | ex x ρ => exact fun dx H' R1 k' q => h dx H' R1 (k.trans k') q
  | bad => exact h
theorem FPost.bind {α β : Type} {K : PySem.W.Frag} {A : Addr → Prop} {ms : Nat → Option Addr} {σ : L2.St} {H : Hp} {Q : VK} {rel : Hp → β → α → Prop} {r : R α} {f : α → En → R D} (h : FPost K G O W A ms σ H Q (r.bind f)) :
    RPost K G O W A ms σ H rel (fun v H1 => ∃ d ρ1, RelS K G O A ms σ H1 ρ1 ∧ Kp O ms H H1 ∧ rel H1 v d ∧ FPost K G O W A ms σ H1 Q (f d ρ1)) r := by
  cases r with
  | ok d ρ => exact fun v H' R k' q => ⟨d, ρ, R, k', q, FPost.from R k' h⟩
  | ex x ρ => exact h
  | bad => exact h
def isL (d : D) : Option D := match d with
  | .lst l => some (.lst l)
  | _ => none
def mL (m : ME) : ME := fun ρ => (m ρ).bind fun d ρ1 => ret (isL d) ρ1
variable {lo hi : Option Expr} {ml mh : MP} {p2 : Pos}
theorem sl_go {K : PySem.W.Frag} (hA : ∀ j, ba = .ow j → O.contains j = true) {σ : L2.St} {H : Hp} {Q : VK} (h : tE K G O W (mSl ba ml mh) σ H Q) : tSl (rSlD K) (tBx K G O W ba) (tP K G O W ml) (tP K G O W mh) σ H Q := by
  obtain ⟨A, ms, ρ, R, q⟩ := h
  have snd : ∀ (x : V) (d0 : D) (ρ1 : En) (H1 : Hp), RelS K G O A ms σ H1 ρ1 → (∀ ρ2 H2 d', RelS K G O A ms σ H2 ρ2 → Kp O ms H1 H2 → rdB ba d0 ρ2 = some d' → (∀ c fs, d' ≠ .obj c fs) → RpB K A H2 x d') →
      RPost K G O W A ms σ H1 (Rp K A) Q ((ml ρ1).bind fun lo ρ2 => (mh ρ2).bind fun hi ρ3 => ret ((rdB ba d0 ρ3).bind fun x' => gSl x' lo hi) ρ3) → tP K G O W ml σ H1 fun l H2 => tP K G O W mh σ H2 fun u H3 => rSlD K x l u H3 Q := by
    intro x d0 ρ1 H1 R1 hx q1
    refine ⟨A, ms, ρ1, R1, RPost.mono (RPost.bind q1) ?_⟩
    rintro l H2 ⟨lo, ρ2, R2', k2, rfl, q2⟩
    refine ⟨A, ms, ρ2, R2', RPost.mono (RPost.bind q2) ?_⟩
    rintro u H3 ⟨hi, ρ3, R3, k3, rfl, q3⟩
    obtain ⟨z, hz, q4⟩ := rp_of R3 q3
    cases hd : rdB ba d0 ρ3 with
    | none => rw [hd] at hz; cases hz
    | some d' =>
      rw [hd] at hz
      exact ⟨A, d', z, R3.trk, hx ρ3 H3 d' R3 (k2.trans k3) hd (fun c fs w => by subst w; cases hz), hz, fun v H' s r _ => q4 v H' s r⟩
  cases ba with
  | ex m =>
    refine ⟨A, ms, ρ, R, RPost.mono (RPost.bind q) ?_⟩
    rintro x H1 ⟨d, ρ1, R1, k1, r1, q1⟩
    exact snd x d ρ1 H1 R1 (fun ρ2 H2 d' R2' k2 e _ => by cases e; exact .of (r1.tr (R1.kt k2))) q1
  | ow j =>
    have q' : RPost K G O W A ms σ H (Rp K A) Q ((evB (.ow j) ρ).bind fun x ρ1 => (ml ρ1).bind fun lo ρ2 => (mh ρ2).bind fun hi ρ3 => ret ((rdB (.ow j) x ρ3).bind fun x' => gSl x' lo hi) ρ3) := q
    have e1 : evB (.ow j) ρ = (match getO ρ j with | some d => .ok d ρ | none => .bad) := rfl
    rw [e1] at q'
    cases hj : getO ρ j with
    | none => simp only [hj] at q'; exact q'.elim
    | some d =>
      simp only [hj] at q'
      obtain ⟨pj, h1, h2, h3⟩ := own_at R (hA j rfl) hj
      refine ⟨_, h2, snd _ d ρ H R (fun ρ2 H2 d' R2' k2 e n => ?_) q'⟩
      obtain ⟨pj', h1', h2', h3'⟩ := own_at R2' (hA j rfl) e
      rw [h1] at h1'
      cases h1'
      exact own_b h3' n
theorem de_sl (ha : DB X G O W a ba) (hl : DP X G O W lo ml) (hh : DP X G O W hi mh) : DE X G O W (.Subscript a (.Slice lo hi none p2) pos) (mSl ba ml mh) := pe_imp (pe_slice sl_d ha.pe hl hh) fun _ _ _ h => sl_go ha.own h
theorem cN_go {g : List D → Option D} {K : PySem.W.Frag} {σ : L2.St} {H : Hp} {Q : VK} (h : tE K G O W (mN g mr) σ H Q) : tCB (rDN K g) (tA K G O W mr) σ H Q := by
  obtain ⟨A, ms, ρ, R, q⟩ := h
  refine ⟨A, ms, ρ, R, RPost.mono (RPost.bind q) ?_⟩
  rintro vs H1 ⟨ds, ρ1, R1, k1, r1, q1⟩
  obtain ⟨z, hz, q2⟩ := rp_of R1 q1
  exact ⟨A, ds, z, R1.trk, .inl r1, hz, q2⟩
theorem rFN.weak {f : Value} {g : List D → Option D} (h : CallR X f (rFN X.K g)) : CallR X f (rDN X.K g) := fun pins s σ H xs us Q I r ⟨A, ds, d, t, p, e, q⟩ => h pins s σ H xs us Q I r ⟨A, ds, d, t, p, e, fun v H' s r _ => q v H' s r⟩
def mNO (g : List D → Option D) (j : Nat) : ME := fun ρ => match getO ρ j with
  | some (.lst l) => ret (g [.lst l]) ρ
  | _ => .bad
def tOwn1 (j : Nat) : TA := tCons (tVar j) tNil
theorem cNO_go {g : List D → Option D} {K : PySem.W.Frag} {j : Nat} (hj : O.contains j = true) {σ : L2.St} {H : Hp} {Q : VK} (h : tE K G O W (mNO g j) σ H Q) : tCB (rDN K g) (tOwn1 j) σ H Q := by
  obtain ⟨A, ms, ρ, R, q⟩ := h
  unfold mNO at q
  split at q
  · rename_i l hl
    obtain ⟨pj, h1, h2, h3⟩ := own_at R hj hl
    obtain ⟨z, hz, q2⟩ := rp_of R q
    exact ⟨_, h2, A, _, z, R.trk, .inr ⟨_, _, rfl, rfl, own_b h3 (fun _ _ => nofun)⟩, hz, q2⟩
  · exact q.elim
section
variable {id T : String} {g : List D → Option D} {j : Nat}
theorem de_b (hv : bootBuiltins x = some (.builtin id)) (hc : CallR X (.builtin id) (rDN X.K g)) (hg : Gl X x) (hm : X.mg x = none) (ha : DA X G O W (e :: es) mr) (hn : x ≠ "__name__" := by decide) (hdb : (x == ("__debug__" : Str)) = false := by decide)
    (he : starEach (e :: es) X.env = (false, eval e X.env) :: starEach es X.env := by rfl) (hpl : (backTo pos (starEach es X.env)).any (·.1) = false := by rfl) : DE X G O W (.Call (.Name x p) (e :: es) [] pos) (mN g mr) :=
  pe_imp (pe_callB hc hg hm hv ha hn hdb he hpl) fun _ _ _ h => cN_go h
theorem de_ty (hv : bootBuiltins x = some (.type T)) (hc : CallR X (.type T) (rDN X.K g)) (hg : Gl X x) (hm : X.mg x = none) (ha : DA X G O W (e :: es) mr) (hn : x ≠ "__name__" := by decide) (hdb : (x == ("__debug__" : Str)) = false := by decide)
    (he : starEach (e :: es) X.env = (false, eval e X.env) :: starEach es X.env := by rfl) (hpl : (backTo pos (starEach es X.env)).any (·.1) = false := by rfl) : DE X G O W (.Call (.Name x p) (e :: es) [] pos) (mN g mr) :=
  pe_imp (pe_callTy hc hg hm hv ha hn hdb he hpl) fun _ _ _ h => cN_go h
theorem pa_own (hy : PE X e (tVar j)) (hs : starEach [e] X.env = (false, eval e X.env) :: starEach [] X.env := by rfl) : PA X [e] (tOwn1 j) := pa_cons hy pa_nil hs
theorem de_bO (hj : O.contains j = true) (hv : bootBuiltins x = some (.builtin id)) (hc : CallR X (.builtin id) (rDN X.K g)) (hg : Gl X x) (hm : X.mg x = none) (hy : PE X e (tVar j)) (hn : x ≠ "__name__" := by decide) (hdb : (x == ("__debug__" : Str)) = false := by decide)
    (he : starEach [e] X.env = (false, eval e X.env) :: starEach [] X.env := by rfl) (hpl : (backTo pos (starEach [] X.env)).any (·.1) = false := by rfl) : DE X G O W (.Call (.Name x p) [e] [] pos) (mNO g j) :=
  pe_imp (pe_callB hc hg hm hv (pa_own hy he) hn hdb he hpl) fun _ _ _ h => cNO_go hj h
end
end
end DL
namespace DL
open L2 PySem PySem.Spec PyProof.Rows
def asInts : List D → Option (List Int)
  | [] => some []
  | .int i :: r => (asInts r).map (i :: ·)
  | _ :: _ => none
def asBls : List D → Option (List Bool)
  | [] => some []
  | .bl i :: r => (asBls r).map (i :: ·)
  | _ :: _ => none
theorem asInts_eq : ∀ {l : List D} {ns : List Int}, asInts l = some ns → l = ns.map D.int
  | [], _, e => by cases e; rfl
  | .int i :: r, _, e => by
    obtain ⟨k, hk, rfl⟩ := map_some (show (asInts r).map (i :: ·) = some _ from e)
    rw [asInts_eq hk]; rfl
  | .non :: _, _, e => by cases e
  | .bl _ :: _, _, e => by cases e
  | .str _ :: _, _, e => by cases e
  | .tup _ :: _, _, e => by cases e
  | .lst _ :: _, _, e => by cases e
  | .scr _ :: _, _, e => by cases e
  | .fn _ :: _, _, e => by cases e
  | .obj _ _ :: _, _, e => by cases e
  | .exn _ _ :: _, _, e => by cases e
theorem asBls_eq : ∀ {l : List D} {ns : List Bool}, asBls l = some ns → l = ns.map D.bl
  | [], _, e => by cases e; rfl
  | .bl i :: r, _, e => by
    obtain ⟨k, hk, rfl⟩ := map_some (show (asBls r).map (i :: ·) = some _ from e)
    rw [asBls_eq hk]; rfl
  | .non :: _, _, e => by cases e
  | .int _ :: _, _, e => by cases e
  | .str _ :: _, _, e => by cases e
  | .tup _ :: _, _, e => by cases e
  | .lst _ :: _, _, e => by cases e
  | .scr _ :: _, _, e => by cases e
  | .fn _ :: _, _, e => by cases e
  | .obj _ _ :: _, _, e => by cases e
  | .exn _ _ :: _, _, e => by cases e
theorem asInts_map (ns : List Int) : asInts (ns.map D.int) = some ns := by
  induction ns with
  | nil => rfl
  | cons n ns ih => rw [List.map_cons]; unfold asInts; rw [ih]; rfl
theorem asBls_map (ns : List Bool) : asBls (ns.map D.bl) = some ns := by
  induction ns with
  | nil => rfl
  | cons n ns ih => rw [List.map_cons]; unfold asBls; rw [ih]; rfl
def gLen : List D → Option D
  | [.lst l] => some (.int l.length)
  | [.tup l] => some (.int l.length)
  | [.scr l] => some (.int l.length)
  | [.str z] => if z.length ≤ sizeLine then some (.int z.length) else none
  | _ => none
def gAbs : List D → Option D
  | [.int i] => some (.int (if i < 0 then -i else i))
  | _ => none
def gInt : List D → Option D
  | [.int i] => some (.int i)
  | [.bl k] => some (.int (if k then 1 else 0))
  | [.str a] => if a.length ≤ 640 then (PySem.intText? a).map D.int else none
  | _ => none
def shownD (d : D) : Option Str := match d.py with
  | some x => if x.showable = true ∧ x.shown.length ≤ sizeLine ∧ x.depth ≤ 60 then some x.shown else none
  | none => none
def gRepr : List D → Option D
  | [d] => (shownD d).map D.str
  | _ => none
def gAll : List D → Option D
  | [.lst l] => (asBls l).map fun bs => .bl (bs.all id)
  | _ => none
def gAny : List D → Option D
  | [.lst l] => (asBls l).map fun bs => .bl (bs.any id)
  | _ => none
def gList : List D → Option D
  | [.lst l] => some (.lst l)
  | [.tup l] => some (.lst l)
  | [.scr l] => some (.lst l)
  | [.str z] => if z.length ≤ sizeLine then some (.lst (chars z)) else none
  | _ => none
def gTuple : List D → Option D
  | [.lst l] => some (.tup l)
  | [.scr l] => some (.tup l)
  | [.tup l] => some (.tup l)
  | _ => none
theorem one_arg {K : PySem.W.Frag} {A : Addr → Prop} {H : Hp} {xs : List V} {a : D} (h : RpA K A H xs [a] ∨ ∃ v c, xs = [v] ∧ [a] = [c] ∧ RpB K A H v c) : ∃ v, xs = [v] ∧ RpB K A H v a := by
  rcases h with h | ⟨v, c, rfl, e, h⟩
  · cases h with
    | cons h t => cases t; exact ⟨_, rfl, .of h⟩
  · cases e; exact ⟨_, rfl, h⟩
section
variable {X : Cx}
theorem b_len : CallR X (.builtin "len") (rDN X.K gLen) := by
  intro pins s σ H xs us Q I r ⟨A, ds, d, t, p, e, q⟩
  unfold gLen at e
  split at e
  · rename_i l
    cases e
    obtain ⟨v, rfl, hv⟩ := one_arg p
    obtain ⟨a, ys, rfl, h, rr⟩ := hv.lst
    exact call_len_seq pins s σ H _ us Q I r ⟨a, ys, rfl, .inl (SqL.of h), by rw [rr.length]; exact q _ _ (Same.refl _) (.int _)⟩
  · rename_i l
    cases e
    obtain ⟨v, rfl, hv⟩ := one_arg p
    obtain ⟨a, ys, rfl, h, rr⟩ := hv.tup
    exact call_len_seq pins s σ H _ us Q I r ⟨a, ys, rfl, .inr h.sq, by rw [rr.length]; exact q _ _ (Same.refl _) (.int _)⟩
  · rename_i l
    cases e
    obtain ⟨v, rfl, hv⟩ := one_arg p
    obtain ⟨a, ys, rfl, h, rr⟩ := hv.scr
    exact call_len_seq pins s σ H _ us Q I r ⟨a, ys, rfl, .inl h.sq, by rw [rr.length]; exact q _ _ (Same.refl _) (.int _)⟩
  · rename_i z
    obtain ⟨hz, rfl⟩ := ite_d (x := .int z.length) e
    obtain ⟨v, rfl, hv⟩ := one_arg p
    rw [hv.str] at r
    exact call_len_str pins s σ H _ us Q I r ⟨z, rfl, hz, q _ _ (Same.refl _) (.int _)⟩
  · cases e
theorem b_abs : CallR X (.builtin "abs") (rDN X.K gAbs) := by
  intro pins s σ H xs us Q I r ⟨A, ds, d, t, p, e, q⟩
  unfold gAbs at e
  split at e
  · rename_i i
    cases e
    obtain ⟨v, rfl, hv⟩ := one_arg p
    rw [hv.int] at r
    exact call_abs pins s σ H _ us Q I r ⟨i, rfl, q _ _ (Same.refl _) (.int _)⟩
  · cases e
theorem b_int : CallR X (.type "int") (rDN X.K gInt) := by
  intro pins s σ H xs us Q I r ⟨A, ds, d, t, p, e, q⟩
  unfold gInt at e
  split at e
  · rename_i i
    cases e
    obtain ⟨v, rfl, hv⟩ := one_arg p
    rw [hv.int] at r
    exact call_int1 pins s σ H _ us Q I r (.inl ⟨i, rfl, q _ _ (Same.refl _) (.int _)⟩)
  · rename_i i
    cases e
    obtain ⟨v, rfl, hv⟩ := one_arg p
    rw [hv.bl] at r
    exact call_int1 pins s σ H _ us Q I r (.inr ⟨i, rfl, q _ _ (Same.refl _) (.int _)⟩)
  · rename_i a
    split at e
    · rename_i hz
      obtain ⟨n, hn, rfl⟩ := map_some e
      obtain ⟨v, rfl, hv⟩ := one_arg p
      rw [hv.str] at r
      exact call_int_str pins s σ H _ us Q I r ⟨a, n, rfl, hn, hz, q _ _ (Same.refl _) (.int _)⟩
    · cases e
  · cases e
mutual
theorem py_noDict : ∀ {d : D} {x : PyData}, d.py = some x → x.hasDict = false
  | .non, _, e => by cases e; simp only [PyData.hasDict]
  | .bl _, _, e => by cases e; simp only [PyData.hasDict]
  | .int _, _, e => by cases e; simp only [PyData.hasDict]
  | .str _, _, e => by cases e; simp only [PyData.hasDict]
  | .tup ds, _, e => by
    unfold D.py at e
    cases hp : pyAll ds with
    | none => rw [hp] at e; cases e
    | some ys => rw [hp] at e; cases e; simp only [PyData.hasDict]; exact pyAll_noDict hp
  | .lst ds, _, e => by
    unfold D.py at e
    cases hp : pyAll ds with
    | none => rw [hp] at e; cases e
    | some ys => rw [hp] at e; cases e; simp only [PyData.hasDict]; exact pyAll_noDict hp
  | .scr _, _, e => by unfold D.py at e; cases e
  | .fn _, _, e => by unfold D.py at e; cases e
  | .obj _ _, _, e => by unfold D.py at e; cases e
  | .exn _ _, _, e => by unfold D.py at e; cases e
theorem pyAll_noDict : ∀ {d : List D} {x : List PyData}, pyAll d = some x → PyData.hasDictAll x = false
  | [], _, e => by cases e; simp only [PyData.hasDictAll]
  | d :: ds, _, e => by
    unfold pyAll at e
    cases h1 : d.py with
    | none => rw [h1] at e; cases e
    | some y =>
      rw [h1] at e
      cases h2 : pyAll ds with
      | none => rw [h2] at e; cases e
      | some ys => rw [h2] at e; cases e; simp only [PyData.hasDictAll, py_noDict h1, pyAll_noDict h2, Bool.or_self]
end
theorem shownD_some {d : D} {z : Str} (e : shownD d = some z) : ∃ x, d.py = some x ∧ x.showable = true ∧ x.shown.length ≤ sizeLine ∧ x.depth ≤ 60 ∧ z = x.shown := by
  unfold shownD at e
  split at e
  · rename_i x hx
    split at e
    · rename_i h
      cases e
      exact ⟨x, hx, h.1, h.2.1, h.2.2, rfl⟩
    · cases e
  · cases e
theorem b_repr (hg : X.A.guards = some []) (hu : X.A.units + 64 < cLine) : CallR X (.builtin "repr") (rDN X.K gRepr) := by
  intro pins s σ H xs us Q I r ⟨A, ds, d, t, p, e, q⟩
  unfold gRepr at e
  split at e
  · rename_i c
    obtain ⟨z, hz, rfl⟩ := map_some e
    obtain ⟨v, rfl, hv⟩ := one_arg p
    obtain ⟨x, hx, h1, h2, h3, rfl⟩ := shownD_some hz
    have dp := hv.dp hx
    obtain ⟨u, rfl, ru⟩ := vals1 r
    have fin : ∀ h' tk u', (∀ b o, s.heap.get? b = some o → h'.get? b = some o) → EP X pins σ Q (.str x.shown u') { s with heap := h', toks := tk } := fun h' tk u' hk => ⟨.str x.shown, H, I.kept hk, ⟨_, rfl⟩, q _ _ (Same.refl _) (.str _)⟩
    have nd := py_noDict hx
    obtain ⟨as, rd⟩ := Dp.reads I x v u dp ru
    cases rd with
    | none =>
      refine PySem.P.repr_of_none ?_
      exact ⟨.str _, H, I.tok _, ⟨_, rfl⟩, q _ _ (Same.refl _) (.str _)⟩
    | bool b =>
      refine PySem.P.repr_of_bool ?_
      refine ⟨.str _, H, I.tok _, ⟨_, rfl⟩, ?_⟩
      have := q _ H (Same.refl _) (.str _)
      simpa [PyData.shown] using this
    | int i t =>
      refine PySem.P.repr_of_int (by simpa [PyData.showable] using h1) ?_
      refine ⟨.str _, H, I.tok _, ⟨_, rfl⟩, ?_⟩
      have := q _ H (Same.refl _) (.str _)
      simpa [PyData.shown] using this
    | str y t =>
      refine PySem.P.repr_of_str (Q := EP X pins σ Q) ?_ (by simpa [PyData.shown] using h2)
      refine ⟨.str _, H, I.tok _, ⟨_, rfl⟩, ?_⟩
      have := q _ H (Same.refl _) (.str _)
      simpa [PyData.shown] using this
    | list a1 a2 a3 a4 =>
      refine repr_of_reads' (h₀ := s.heap) (Reads.list a1 a2 a3 a4) h1 (PyData.noDict_hsm nd) hg (by omega) (fun _ _ z => z) (fun h' u' tk hk => fin h' tk u' hk) h2
    | tuple a1 a2 a3 a4 =>
      refine repr_of_reads' (h₀ := s.heap) (Reads.tuple a1 a2 a3 a4) h1 (PyData.noDict_hsm nd) hg (by omega) (fun _ _ z => z) (fun h' u' tk hk => fin h' tk u' hk) h2
    | dict => simp [PyData.hasDict] at nd
  · cases e
theorem b_all (hc : X.calm = true) : CallR X (.builtin "all") (rDN X.K gAll) := by
  intro pins s σ H xs us Q I r ⟨A, ds, d, t, p, e, q⟩
  unfold gAll at e
  split at e
  · rename_i l
    obtain ⟨bs, hb, rfl⟩ := map_some e
    obtain ⟨v, rfl, hv⟩ := one_arg p
    obtain ⟨a, ys, rfl, h, rr⟩ := hv.lst
    rw [asBls_eq hb] at rr
    rw [rr.bls] at h
    exact cr_all hc pins s σ H _ us Q I r ⟨a, bs, rfl, SqL.of h, q _ _ (Same.refl _) (.bl _)⟩
  · cases e
theorem b_any (hc : X.calm = true) : CallR X (.builtin "any") (rDN X.K gAny) := by
  intro pins s σ H xs us Q I r ⟨A, ds, d, t, p, e, q⟩
  unfold gAny at e
  split at e
  · rename_i l
    obtain ⟨bs, hb, rfl⟩ := map_some e
    obtain ⟨v, rfl, hv⟩ := one_arg p
    obtain ⟨a, ys, rfl, h, rr⟩ := hv.lst
    rw [asBls_eq hb] at rr
    rw [rr.bls] at h
    exact cr_any hc pins s σ H _ us Q I r ⟨a, bs, rfl, SqL.of h, q _ _ (Same.refl _) (.bl _)⟩
  · cases e
theorem b_listF (hc : X.calm = true) : CallR X (.type "list") (rFN X.K gList) := by
  intro pins s σ H xs us Q I r ⟨A, ds, d, t, p, e, q⟩
  unfold gList at e
  split at e
  · cases e
    obtain ⟨v, rfl, hv⟩ := one_arg p
    obtain ⟨a, ys, rfl, h, rr⟩ := hv.lst
    exact call_list_of pins s σ H _ us Q I r ⟨a, ys, rfl, .inl (SqL.of h), fun l hl => q _ _ (same_upd hl) (new_lst t rr hl) (new_fr t rr hl)⟩
  · cases e
    obtain ⟨v, rfl, hv⟩ := one_arg p
    obtain ⟨a, ys, rfl, h, rr⟩ := hv.tup
    exact call_list_of pins s σ H _ us Q I r ⟨a, ys, rfl, .inr h.sq, fun l hl => q _ _ (same_upd hl) (new_lst t rr hl) (new_fr t rr hl)⟩
  · cases e
    obtain ⟨v, rfl, hv⟩ := one_arg p
    obtain ⟨a, ys, rfl, h, rr⟩ := hv.scr
    exact call_list_of pins s σ H _ us Q I r ⟨a, ys, rfl, .inl h.sq, fun l hl => q _ _ (same_upd hl) (new_lst t rr hl) (new_fr t rr hl)⟩
  · rename_i z
    obtain ⟨hz, rfl⟩ := ite_d (x := .lst (chars z)) e
    obtain ⟨v, rfl, hv⟩ := one_arg p
    rw [hv.str] at r
    obtain ⟨u, rfl, ru⟩ := vals1 r
    obtain ⟨t0, rfl⟩ := ru
    have rr : RpA X.K A H ((z.cps.toList.map fun c => (⟨#[c]⟩ : Str)).map V.str) (chars z) := by
      have h := RpA.of_strs (K := X.K) (A := A) (H := H) (z.cps.toList.map fun c => (⟨#[c]⟩ : Str))
      unfold chars
      rw [List.map_map] at h ⊢
      rw [List.map_map] at h
      exact h
    have hl := I.hok.fresh (Nat.le_refl s.heap.objs.size)
    refine call_list_str (I.ok.hd hc) z t0 (fun h' tk acc c' hk e' hi => ?_) hz
    refine ⟨.ref s.heap.objs.size, upd H s.heap.objs.size (.lst ((z.cps.toList.map fun c => (⟨#[c]⟩ : Str)).map V.str)), I.laid hk (Nat.le_refl _) (show ObjOk X.prog X.w _ _ _ (.lst _) from ⟨?_, acc.toList, c', ?_, ?_⟩), rfl, q _ _ (same_upd hl) (new_lst t rr hl) (new_fr t rr hl)⟩
    · rw [List.length_map, List.length_map, Array.length_toList]
      exact hz
    · have e1 : acc.toList.length = z.cps.toList.length := by rw [Array.length_toList, Array.length_toList]; exact hi.1
      rw [List.map_map]
      refine vals_of_at (by rw [List.length_map, e1]) fun j x u hx hu => ?_
      rw [List.getElem?_map] at hx
      obtain ⟨c, k, hc2, rfl⟩ := hi.2 j u (by rw [← hu, Array.getElem?_toList])
      rw [Array.getElem?_toList, hc2] at hx
      cases hx
      exact ⟨k, rfl⟩
    · rw [Array.toArray_toList]
      exact e'
  · cases e
theorem b_list (hc : X.calm = true) : CallR X (.type "list") (rDN X.K gList) := rFN.weak (b_listF hc)
theorem b_tuple : CallR X (.type "tuple") (rDN X.K gTuple) := by
  intro pins s σ H xs us Q I r ⟨A, ds, d, t, p, e, q⟩
  unfold gTuple at e
  split at e
  · cases e
    obtain ⟨v, rfl, hv⟩ := one_arg p
    obtain ⟨a, ys, rfl, h, rr⟩ := hv.lst
    exact call_tuple_of pins s σ H _ us Q I r ⟨a, ys, rfl, .inl ⟨SqL.of h, fun l hl => q _ _ (same_upd hl) (new_tup t rr hl)⟩⟩
  · cases e
    obtain ⟨v, rfl, hv⟩ := one_arg p
    obtain ⟨a, ys, rfl, h, rr⟩ := hv.scr
    exact call_tuple_of pins s σ H _ us Q I r ⟨a, ys, rfl, .inl ⟨h.sq, fun l hl => q _ _ (same_upd hl) (new_tup t rr hl)⟩⟩
  · cases e
    obtain ⟨v, rfl, hv⟩ := one_arg p
    obtain ⟨a, ys, rfl, h, rr⟩ := hv.tup
    exact call_tuple_of pins s σ H _ us Q I r ⟨a, ys, rfl, .inr ⟨h.sq, q _ _ (Same.refl _) (.tup h rr)⟩⟩
  · cases e
end
theorem bt_len : bootBuiltins "len" = some (.builtin "len") := by decide +kernel
theorem bt_int : bootBuiltins "int" = some (.type "int") := by decide +kernel
theorem bt_list : bootBuiltins "list" = some (.type "list") := by decide +kernel
theorem bt_tuple : bootBuiltins "tuple" = some (.type "tuple") := by decide +kernel
theorem bt_repr : bootBuiltins "repr" = some (.builtin "repr") := by decide +kernel
theorem bt_abs : bootBuiltins "abs" = some (.builtin "abs") := by decide +kernel
theorem bt_all : bootBuiltins "all" = some (.builtin "all") := by decide +kernel
theorem bt_any : bootBuiltins "any" = some (.builtin "any") := by decide +kernel
theorem bt_sorted : bootBuiltins "sorted" = some (.builtin "sorted") := by decide +kernel
theorem bt_isinstance : bootBuiltins "isinstance" = some (.builtin "isinstance") := by decide +kernel
end DL
namespace DL
open L2 PySem PySem.Spec PyProof.Rows
section
variable {X : Cx} {G : Gd} {XC : List Nat → Prop} {Ol O O' O1 : List Nat} {W : WX} {fr : Bool} {a b c e : Expr} {es : List Expr} {ma mb mc me : ME} {mr : MA} {pos p : Pos} {x y : Str}
def putP : List Nat → List D → En → Out
  | [], [], ρ => .nx ρ
  | i :: is, d :: ds, ρ => if i < ρ.length then putP is ds (ρ.set i (some d)) else .bad
  | _, _, _ => .bad
def msPar (is : List Nat) (m : MA) : MS := fun ρ => obind (m ρ) fun ds ρ1 => putP is ds ρ1
theorem ds_par {i j : Nat} {px py pt : Pos} {kt k2 pt2} (hx : XC O) (hc : X.calm = true) (hN : X.N.Nodup) (hi : X.N[i]? = some x) (hj : X.N[j]? = some y) (hij : i ≠ j) (oi : O.contains i = false) (oj : O.contains j = false)
    (hlx : X.env.scope.names.lookup x = some .local) (hly : X.env.scope.names.lookup y = some .local) (ha : DA X G O W [a, b] mr)
    (hw : swappedStores [.Tuple [.Name x px, .Name y py] kt pt] (.Tuple [a, b] k2 pt2) X.env = pure (some [x, y]) := by rfl)
    (hs : swapsWithSole [.Tuple [.Name x px, .Name y py] kt pt] (.Tuple [a, b] k2 pt2) pos.line X.env = pure false := by rfl) :
    DS X G XC Ol O O W fr (.Assign [.Tuple [.Name x px, .Name y py] kt pt] (.Tuple [a, b] k2 pt2) pos) (msPar [i, j] mr) := by
  have ni : i ∉ O := fun z => by rw [List.contains_iff_mem.mpr z] at oi; cases oi
  have nj : j ∉ O := fun z => by rw [List.contains_iff_mem.mpr z] at oj; cases oj
  refine ps_imp (ps_par hc hN hi hj hij hlx hly ha hw hs) fun D0 σ H ⟨A, ms, ρ, R, q⟩ => ⟨A, ms, ρ, R, eb hx q ?_⟩
  intro ds ρ1 vs H1 _ R1 k1 r q1
  cases r with
  | nil => exact q1.elim
  | cons r1 r =>
    cases r with
    | nil =>
      simp only [putP] at q1
      split at q1 <;> exact q1.elim
    | cons r2 r =>
      cases r with
      | cons _ _ =>
        simp only [putP] at q1
        split at q1
        · split at q1 <;> exact q1.elim
        · exact q1.elim
      | nil =>
        simp only [putP] at q1
        split at q1
        · rename_i h1
          split at q1
          · rename_i h2
            exact ⟨_, _, rfl, q1 _ H1 A ms ((R1.put ni h1 r1).put nj h2 r2) Tr.refl⟩
          · exact q1.elim
        · exact q1.elim
def msRaise (c : Str) : MS := fun ρ => .ex ⟨c, []⟩ ρ
theorem ds_raise {C : Str} (hx : XC O) (hc : X.calm = true) (tk : L2N.Takes X W) (he : L2N.PMk X e (fun _ H Q => Q (.ref (He.ga X.K C)) none H)) : DS X G XC Ol O O' W fr (.Raise (some e) none pos) (msRaise C) := by
  refine ps_imp (L2N.ps_raise hc tk he) fun D0 σ H ⟨A, ms, ρ, R, q⟩ => ?_
  exact q none σ H A ms O hx R Tr.refl (.inl ⟨rfl, rfl⟩)
theorem pss_ex {ι : Type} {sts : List Stmt} {P : ι → Prop} {t : ι → TS} (h : ∀ i, P i → PSs X sts (t i)) : PSs X sts (fun D σ H => ∃ i, P i ∧ t i D σ H) := ⟨fun pins s σ H D I ⟨i, p, q⟩ => (h i p).run pins s σ H D I q⟩
def fgt (i : Nat) : Out → Out
  | .nx ρ => .nx (ρ.set i none)
  | .rt d ρ => .rt d ρ
  | .bk ρ => .bk (ρ.set i none)
  | .ct ρ => .ct (ρ.set i none)
  | .ex _ _ => .bad
  | .bad => .bad
def msTryAs (mt : Str → Option Bool) (i : Nat) (mb : MS) (ms : Str → MS) : MS := fun ρ => match mb ρ with
  | .ex y ρ1 => match mt y.c with
    | some true => match y.fs with
      | [] => if i < ρ1.length then fgt i (ms y.c (ρ1.set i none)) else .bad
      | _ => .bad
    | some false => .ex y ρ1
    | none => .bad
  | o => o
def Mt (X : Cx) (c : Value) (mt : Str → Option Bool) : Prop := ∀ y b, mt y = some b → PySem.W.exmOne X.K (.ref (He.ga X.K y)) c = some b
def Gd.at (G : Gd) (i : Nat) (a : Addr) (c : Str) : Gd := { G with px := some (i, a, c) }
theorem RelS.named {K : PySem.W.Frag} {A : Addr → Prop} {ms : Nat → Option Addr} {σ : L2.St} {H : Hp} {ρ : En} {i : Nat} {a : Addr} {c : Str} (R : RelS K G O A ms σ H ρ) (hi : i ∉ O) (hlt : i < ρ.length) (hn : G.px = none) (h0 : i ≠ 0 ∨ G.io = none) :
    RelS K (G.at i a c) (i :: O) A (fun j => if j = i then none else ms j) (σ.set i (some (.ref a))) H (ρ.set i none) := by
  have R1 := R.forget (O1 := i :: O) (NPx.no hn) h0 fun j hj => by simp [hj]
  have ne : ∀ {j : Nat} {z : D}, (ρ.set i none)[j]? = some (some z) → j ≠ i := fun {j z} e h => by
    subst h
    rw [List.getElem?_set_self hlt] at e; cases e
  exact {
    sub := R1.sub
    trk0 := R1.trk0
    trk := R1.trk
    keep := R1.keep
    len := by rw [List.length_set]; exact R1.len
    fz := fun j d e n => let ⟨v, e1, q⟩ := R1.fz j d e n; ⟨v, by rw [List.getElem?_set_ne (Ne.symm (ne e))]; exact e1, q⟩
    ow := fun j d e m => let ⟨p, e0, e1, q⟩ := R1.ow j d e m; ⟨p, e0, by rw [List.getElem?_set_ne (Ne.symm (ne e))]; exact e1, q⟩
    inA := R1.inA
    ok := R1.ok
    dist := R1.dist
    px := fun j a' c' e => by
      cases e
      exact ⟨List.mem_cons_self, List.getElem?_set_self (by rw [R.len]; exact hlt)⟩
    io := R1.io }
theorem RelS.unnamed {K : PySem.W.Frag} {A : Addr → Prop} {ms : Nat → Option Addr} {σ : L2.St} {H : Hp} {ρ : En} {i : Nat} {a : Addr} {c : Str} (R : RelS K (G.at i a c) (i :: O) A ms σ H ρ) (hi : i ∉ O) (hn : G.px = none) (h0 : i ≠ 0 ∨ G.io = none) :
    RelS K G O A (fun j => if j = i then none else ms j) (σ.set i none) H (ρ.set i none) := by
  have ne : ∀ {j : Nat} {z : D}, (ρ.set i none)[j]? = some (some z) → j ≠ i := fun {j z} e h => by
    subst h
    by_cases hl : j < ρ.length
    · rw [List.getElem?_set_self hl] at e; cases e
    · rw [List.getElem?_eq_none (by rw [List.length_set]; omega)] at e; cases e
  have g : ∀ {j : Nat} {z : D}, (ρ.set i none)[j]? = some (some z) → ρ[j]? = some (some z) := fun {j z} e => by
    have e' := e
    rw [set_get_ne (ne e)] at e'
    exact e'
  have sm : ∀ {j : Nat} {p : Addr}, (if j = i then none else ms j) = some p → j ≠ i ∧ ms j = some p := fun {j p} e => by
    by_cases h : j = i
    · rw [if_pos h] at e; cases e
    · rw [if_neg h] at e; exact ⟨h, e⟩
  exact {
    sub := R.sub
    trk0 := R.trk0
    trk := R.trk
    keep := R.keep
    len := by rw [List.length_set, List.length_set]; exact R.len
    fz := fun j d e n => by
      have nj := ne e
      obtain ⟨v, e1, q⟩ := R.fz j d (g e) fun m => (List.mem_cons.mp m).elim nj n
      exact ⟨v, by rw [List.getElem?_set_ne (Ne.symm nj)]; exact e1, q⟩
    ow := fun j d e m => by
      have nj := ne e
      obtain ⟨p, e0, e1, q⟩ := R.ow j d (g e) (List.mem_cons_of_mem _ m)
      exact ⟨p, (if_neg nj).trans e0, by rw [List.getElem?_set_ne (Ne.symm nj)]; exact e1, q⟩
    inA := fun j p m e => R.inA j p (List.mem_cons_of_mem _ m) (sm e).2
    ok := fun j p m e => R.ok j p (List.mem_cons_of_mem _ m) (sm e).2
    dist := fun j j' p m m' e e' => R.dist j j' p (List.mem_cons_of_mem _ m) (List.mem_cons_of_mem _ m') (sm e).2 (sm e').2
    px := fun j a' c' e => by rw [hn] at e; cases e
    io := fun p e => by
      obtain ⟨h1, h2, h3, z, h4⟩ := R.io p e
      have n0 : (0 : Nat) ≠ i := fun w => by
        rcases h0 with k | k
        · exact k w.symm
        · rw [k] at e; cases e
      exact ⟨(List.mem_cons.mp h1).resolve_left n0, h2, (if_neg n0).trans h3, z, by rw [set_get_ne n0]; exact h4⟩ }
theorem ds_tryAs {n : Str} {c : Value} {i : Nat} {body suite : List Stmt} {b₀ : Stmt} {np pos' : Pos} {mt : Str → Option Bool} {mb : MS} {ms : Str → MS} (hx : XC O) (hs : X.stack = X.env :: X.outer) (hf : X.env.frame = some X.env.locals) (hN : X.N.Nodup) (hi : X.N[i]? = some n) (hln : X.env.kindOf n = some .local) (hc : Names X x c) (tk : L2N.Takes X W)
    (hmt : Mt X c mt) (oi : O.contains i = false) (h0 : i ≠ 0 ∨ G.io = none) (hn : G.px = none)
    (hb : ∀ (W : WX) (pn : List (Addr × Obj)) (xe : Value → Shared → Prop), L2N.Takes (X.tr pn xe) W → PassesOwn (model X.prog X.w) X.A X.env xe → DSs (X.tr pn xe) G (fun o => o = O) Ol O O W fr body mb)
    (hsu : ∀ (a : Addr) (oe : Obj) (k : Str) (pn : List (Addr × Obj)), L2N.Zn (.ref (He.ga X.K k)) none oe → (∃ vs, oe.data = .fields vs) → mt k = some true → DSs (X.suite a ((a, oe) :: pn)) (G.at i a k) (fun o => o = i :: O) (i :: Ol) (i :: O) (i :: O) W0 fr (b₀ :: suite) (ms k))
    (nol : Ol.contains i = false) :
    DS X G XC Ol O O W fr (.Try body [.ExceptHandler (some (.Name x np)) (some n) (b₀ :: suite) pos'] [] [] pos) (msTryAs mt i mb ms) := by
  have ni : i ∉ O := fun z => by rw [List.contains_iff_mem.mpr z] at oi; cases oi
  have nl : i ∉ Ol := fun z => by rw [List.contains_iff_mem.mpr z] at nol; cases nol
  let ts : Addr → Value → Option Addr → TS := fun a cls d D σ H => ∃ k : Str, (cls = .ref (He.ga X.K k) ∧ d = none ∧ mt k = some true) ∧ tS X.K (G.at i a k) (fun o => o = i :: O) (i :: Ol) (i :: O) (i :: O) W0 fr (ms k) D σ H
  refine ps_imp (L2N.ps_try_as (ts := ts) (Wout := W) (tb := fun W => tS X.K G (fun o => o = O) Ol O O W fr mb) hs hf hN hi hln hc tk (fun W pn xe t p => hb W pn xe t p) (fun a oe cls d pn hz hd => ?_)) fun D0 σ H ⟨A, ms', ρ, R, q⟩ => ?_
  · refine pss_ex fun k ⟨e1, e2, e3⟩ => ?_
    subst e1 e2
    exact hsu a oe k pn hz hd e3
  · refine ⟨A, ms', ρ, R, ?_⟩
    unfold msTryAs at q
    cases hm : mb ρ with
    | nx ρ1 => rw [hm] at q; exact q
    | rt d ρ1 => rw [hm] at q; exact q
    | bk ρ1 => rw [hm] at q; exact q
    | ct ρ1 => rw [hm] at q; exact q
    | bad => rw [hm] at q; exact q.elim
    | ex y ρ1 =>
      rw [hm] at q
      intro dx σ1 H1 A1 ms1 O'' hO R1 t1 xr
      have hO' : O'' = O := hO
      subst hO'
      have q1 := SPost.from t1 q
      have q1 : SPost X.K G XC Ol O'' W fr A1 H1 D0 (match mt y.c with
        | some true => match y.fs with
          | [] => if i < ρ1.length then fgt i (ms y.c (ρ1.set i none)) else .bad
          | _ => .bad
        | some false => .ex y ρ1
        | none => .bad) := q1
      cases hb1 : mt y.c with
      | none => simp only [hb1] at q1; exact q1.elim
      | some b =>
        simp only [hb1] at q1
        refine ⟨b, hmt _ _ hb1, fun e1 a na => ?_, fun e1 => ?_⟩
        · subst e1
          obtain ⟨yc, yf⟩ := y
          cases yf with
          | cons _ _ => exact q1.elim
          | nil =>
            have q2 : SPost X.K G XC Ol O'' W fr A1 H1 D0 (if i < ρ1.length then fgt i (ms yc (ρ1.set i none)) else .bad) := q1
            have dn : dx = none := by
              rcases xr with ⟨_, z⟩ | ⟨z, _⟩
              · exact z
              · exact absurd rfl z
            subst dn
            split at q2
            · rename_i hlt
              refine ⟨yc, ⟨rfl, rfl, hb1⟩, A1, _, _, R1.named ni hlt hn h0, ?_⟩
              cases hr : ms yc (ρ1.set i none) with
              | nx ρ2 => rw [hr] at q2; exact fun σ' H' A' ms' R' t => q2 _ H' A' _ (R'.unnamed ni hn h0) t
              | bk ρ2 => rw [hr] at q2; exact fun σ' H' A' ms' R' t => q2 _ H' A' _ (R'.unnamed nl hn h0) t
              | ct ρ2 => rw [hr] at q2; exact fun σ' H' A' ms' R' t => q2 _ H' A' _ (R'.unnamed nl hn h0) t
              | rt d ρ2 => rw [hr] at q2; exact q2
              | ex z ρ2 => rw [hr] at q2; exact q2.elim
              | bad => rw [hr] at q2; exact q2.elim
            · exact q2.elim
        · subst e1
          have q2 : SPost X.K G XC Ol O'' W fr A1 H1 D0 (.ex y ρ1) := q1
          exact q2 dx σ1 H1 A1 ms1 O'' hx R1 Tr.refl xr
end
end DL
namespace DL
open L2 PySem PySem.Spec PyProof.Rows
section
variable {X : Cx} {G : Gd} {XC : List Nat → Prop} {Ol O O' O1 : List Nat} {W : WX} {fr : Bool} {a b c e o : Expr} {es : List Expr} {ma mb mc me mo : ME} {mr : MA} {pos p apos : Pos} {x y : Str}
theorem de_isE {i : Nat} {n C k : Str} {v : Bool} {ad : Addr} {np cp : Pos} (hpx : G.px = some (i, ad, k)) (hC : CallR X (.builtin "isinstance") (rIsE X.K (He.ga X.K k) ad)) (ht : PySem.W.kitOne X.K (.ref (He.ga X.K k)) (.ref (He.ga X.K C)) = some v)
    (hg : Gl X "isinstance") (hm : X.mg "isinstance" = none) (hN : X.N[i]? = some n) (hv : Vis X.env.scope n) (hcg : Gl X C) (hcm : X.mg C = some (.ref (He.ga X.K C)))
    (hd1 : (n == ("__debug__" : Str)) = false := by decide) (hd2 : (n == ("__classdict__" : Str)) = false := by decide) (hd3 : (C == ("__debug__" : Str)) = false := by decide)
    (he : starEach [.Name n np, .Name C cp] X.env = (false, eval (.Name n np) X.env) :: starEach [.Name C cp] X.env := by rfl) (he2 : starEach [.Name C cp] X.env = (false, eval (.Name C cp) X.env) :: starEach [] X.env := by rfl) (hpl : (backTo pos (starEach [.Name C cp] X.env)).any (·.1) = false := by rfl) :
    DE X G O W (.Call (.Name "isinstance" p) [.Name n np, .Name C cp] [] pos) (mK (.bl v)) := by
  refine pe_imp (pe_callB hC hg hm bt_isinstance (pa_cons (pe_var hN hv hd1 hd2) (pa_cons (pe_glob (v := .ref (He.ga X.K C)) hcg hcm rfl hd3) pa_nil he2) he) (by decide) (by decide) he hpl) fun σ H Q ⟨A, ms, ρ, R, q⟩ => ?_
  obtain ⟨_, h1⟩ := R.px i ad k hpx
  exact ⟨_, h1, .ref (He.ga X.K C), .ref (He.ga X.K C), v, rfl, fun u r => r, ht, q _ H R Kp.refl (.bl v)⟩
def mCallV (tab : Str → Option FN) (f : ME) (args : MA) : ME := fun ρ => (f ρ).bind fun d ρ1 => match d with
  | .fn x => match tab x with
    | some F => mCall F args ρ1
    | none => .bad
  | _ => .bad
def isStr : D → Bool
  | .str _ => true
  | _ => false
end
end DL
namespace DL
open L2 PySem PySem.Spec PyProof.Rows
theorem lawG {P : Program} {w : World} {K : PySem.W.Frag} {mg mB : Str → Option Value} {k : Nat} {fL sc : Addr} {F : FN} {t0 : Shared} {ws : List Value} {zs : List Int} {o : D} (kin : K.In t0.heap) (nsG : t0.heap.Ns mainGlobals mg) (nsB : t0.heap.Ns builtinsNs mB)
    (bB : ∀ y : Str, y ≠ "__name__" → mB y = bootBuiltins y) (noL : t0.heap.NoLimit) (noG : t0.gens = #[]) (hsc : t0.heap.get? sc = some { cls := .type "list", data := .seq ws.toArray }) (itg : IntsAre ws zs) (few : zs.length ≤ sizeLine) (room : Room k callerA)
    (C : ∀ base : Heap, K.In base → base.Ns mainGlobals mg → FnG P w K mg base k fL false false F) (hF : F [.scr (zs.map D.int)] = .rt (.bl true) o) :
    codeAny (model P w) callerA (.call (.ref fL) ⟨[.ref sc], []⟩) (fun r t => r = .ok (.ret (.bool true)) ∧ OldK t0.heap t.heap ∧ t.os = t0.os ∧ AllBare t.gens) t0 := by
  have rz := vals_ints itg
  have lz := itg.length
  have main : ∀ J : Hp, Only J → SqL K J sc (zs.map V.int) → HOk P w J t0.heap → (∀ b, J b ≠ none → b = sc) → (J sc ≠ none → K.lookup sc = none) →
      codeAny (model P w) callerA (.call (.ref fL) ⟨[.ref sc], []⟩) (fun r t => r = .ok (.ret (.bool true)) ∧ OldK t0.heap t.heap ∧ t.os = t0.os ∧ AllBare t.gens) t0 := by
    intro J only sq ok1 at1 no1
    have keepB : ∀ {b : Addr} {ob : Obj}, t0.heap.get? b = some ob → J b = none → (hidT t0.heap J).get? b = some ob := fun x y => hidT_get x y
    have noDict : ∀ {b : Addr} {ob : Obj} {es : Array DictEntry} {ep : Nat}, t0.heap.get? b = some ob → ob.data = .dict es ep → J b = none := fun {b ob es ep} x y => by
      cases z : J b with
      | none => rfl
      | some u =>
        obtain rfl : b = sc := at1 b (by rw [z]; simp)
        rw [hsc] at x
        cases x
        cases (show Data.seq ws.toArray _ = Data.dict es ep from y)
    have nsT : ∀ {b : Addr} {m : Str → Option Value}, t0.heap.Ns b m → (hidT t0.heap J).Ns b m := fun {b m} ⟨ob, es, ep, x, y, r⟩ => ⟨ob, es, ep, keepB x (noDict x y), y, r⟩
    have kinB : K.In (hidT t0.heap J) := fun b ob x => keepB (kin b ob x) (by
      cases z : J b with
      | none => rfl
      | some u =>
        obtain rfl : b = sc := at1 b (by rw [z]; simp)
        rw [no1 (by rw [z]; simp)] at x
        cases x)
    have modB : Mod K mg (hidT t0.heap J) := ⟨kinB, nsT nsG, ⟨mB, nsT nsB, bB⟩, let ⟨m1, x, y⟩ := noL; ⟨m1, nsT x, y⟩⟩
    have env0 : Env0 P w K mg (hidT t0.heap J) callerA [] t0 J := ⟨rfl, modB, fun b ob x => of_hidT x, Nat.le_of_eq (hidT_size _ _), trivial, fun b hb => absurd (show b ∈ ([] : List Addr) from hb) List.not_mem_nil, ok1, .of_eq noG⟩
    have sp1 : spD K false false F [.ref sc] J (fun v _ => v = .bl true) (fun _ _ _ => False) := by
      refine ⟨fun _ => False, none, [.scr (zs.map D.int)], fun _ z => z.elim, rfl, ?_, ?_⟩
      · exact .cons (.scr (sq.imp (fun z => ⟨z, fun z => z⟩) id) (RpA.of_ints zs)) .nil
      · rw [hF]
        intro v J' _ rr
        have rr' : Rp K (fun _ => False) J' v (.bl true) := rr.1
        cases rr'
        rfl
    refine codeAny_mono ((C _ kinB (nsT nsG)).run callerA [] t0 J [.ref sc] [.ref sc] _ _ room rfl env0 (.cons rfl .nil) sp1) fun r t hr => ?_
    cases r with
    | error e =>
      obtain ⟨_, _, _, _, _, _, _, _, _, _, _, _, z⟩ := (show L2N.CX P w [] J t0 (fun _ _ _ => False) e t from hr)
      exact z.elim
    | ok fl =>
      cases fl with
      | next => exact hr.elim
      | brk => exact hr.elim
      | cont => exact hr.elim
      | ret u =>
        obtain ⟨v, J', os1, bare1, un1, ok2, rv, qv⟩ := hr
        obtain rfl : v = .bl true := qv
        obtain rfl : u = Value.bool true := rv
        refine ⟨rfl, OldK.of_keep fun b ob x => ?_, os1, bare1⟩
        cases z : J b with
        | none => exact un1.keep b ob x z (fun y => absurd (show b ∈ ([] : List Addr) from y) List.not_mem_nil) List.not_mem_nil
        | some u =>
          rcases only b with y | ⟨o1, xs, y⟩
          · rw [z] at y; cases y
          · obtain ⟨g1, _⟩ := ok1 b _ y
            obtain ⟨g2, _⟩ := ok2 b _ (un1.frzs b o1 _ y)
            rw [x] at g1
            cases g1
            exact g2
  cases lk : K.lookup sc with
  | some ob =>
    have x := kin sc ob lk
    rw [hsc] at x
    cases x
    exact main (fun _ => none) (fun _ => .inl rfl) (.inr ⟨_, ws.toArray, _, lk, rfl, rfl, rfl, by rw [List.size_toArray, lz]; exact few, by simpa using rz⟩) (fun b u z => by cases (show (none : Option HO) = some u from z)) (fun b z => absurd rfl z) fun z => absurd rfl z
  | none =>
    let ob : Obj := { cls := .type "list", data := .seq ws.toArray }
    refine main (fun b => if b = sc then some (.frz ob (.lst (zs.map V.int))) else none) (fun b => ?_) (.inl (.inr ⟨ob, if_pos rfl⟩)) (fun b u z => ?_) (fun b z => ?_) fun _ => lk
    · by_cases hb : b = sc
      · exact .inr ⟨_, _, if_pos hb⟩
      · exact .inl (if_neg hb)
    · by_cases hb : b = sc
      · cases (if_pos hb).symm.trans z
        subst hb
        exact ⟨hsc, by rw [List.length_map]; exact few, ws, _, rz, hsc⟩
      · cases (if_neg hb).symm.trans z
    · by_cases hb : b = sc
      · exact hb
      · exact absurd (if_neg hb) z
theorem walkG {l : PySem.W.OpenLaw} {n k : Nat} {q : Program} {loose : List Str} {XP : (Str → Option Value) → Heap → Prop} {YP : World → Heap → Prop} {d : DefRec} {F : FN} (hn : l.most = some n) (hn2 : n ≤ sizeLine) (hdf : d.params.defaults = []) (room : Room k callerA)
    (C : ∀ (w : World) (mg : Str → Option Value) (fL : Addr) (h : Heap), YP w h → h.Ns mainGlobals mg → mg d.name = some (.ref fL) → ∃ K : PySem.W.Frag, K.In h ∧ ∀ base : Heap, K.In base → base.Ns mainGlobals mg → FnG l.prog w K mg base k fL false false F)
    (hF : ∀ zs : List Int, zs.length ≤ n → ∃ o, F [.scr (zs.map D.int)] = .rt (.bl true) o) : PySem.W.WalkO q loose XP YP l.row.toRowW d [] (fun f vs => PySem.call f vs) := by
  refine Att.attach_call hn hdf fun w t1 t0 mg mB fL o pm cd doc sc ws zs G Y ho hd hcd hmg hobj hints hlen hg => ?_
  obtain ⟨K, kin, hC⟩ := C w mg fL _ Y G.T.g hmg
  obtain ⟨o', e⟩ := hF zs hlen
  exact lawG kin G.T.g G.T.b G.T.builtins G.T.nolimit hg hobj hints (Nat.le_trans hlen hn2) room hC e
abbrev Ok (P : Program) (w : World) (K : PySem.W.Frag) (mg : Str → Option Value) (k : Nat) (x : Str) (io fr : Bool) (F : FN) : Prop := ∀ base : Heap, FnG P w K mg base k (He.ga K x) io fr F
theorem Room.u64 {k : Nat} {A : Around} (r : Room k A) : A.units + 64 < cLine := by have := r.un; omega
theorem Room.u65 {k : Nat} {A : Around} (r : Room k A) : A.units + 65 < cLine := by have := r.un; omega
section
variable {X : Cx} {G : Gd} {XC : List Nat → Prop} {Ol O O' O1 : List Nat} {W : WX} {fr : Bool} {a b c e o : Expr} {es : List Expr} {ma mb mc me mo : ME} {mr : MA} {pos p apos : Pos} {x y : Str}
theorem v_ (i : Nat) {x : Str} {pos : Pos} (hO : O.contains i = false := by rfl) (hN : X.N[i]? = some x := by rfl) (hv : Vis X.env.scope x := by first | exact Or.inl rfl | exact Or.inr (Or.inl rfl) | exact Or.inr (Or.inr rfl))
    (hd : (x == ("__debug__" : Str)) = false := by decide) (hcd : (x == ("__classdict__" : Str)) = false := by decide) : DE X G O W (.Name x pos) (mVar i) := de_var i hO hN hv hd hcd
theorem gv_ {x : Str} {d : D} {v : V} {u : Value} (hm : X.mg x = some u) (ru : RelV v u) (hr : ∀ A H, Rp X.K A H v d) (hg : Gl X x := by rfl) (hd : (x == ("__debug__" : Str)) = false := by decide) : DE X G O W (.Name x pos) (mK d) := de_c (pe_glob hg hm ru hd) hr
theorem pm (op : CmpOp) (b : Expr) (h : behindInMarks op b = false := by rfl) : behindInMarks op b = false := h
end
end DL
namespace DL
open L2 PySem PySem.Spec PyProof.Rows
section
variable {X : Cx} {G : Gd} {XC : List Nat → Prop} {Ol O O' O1 : List Nat} {W : WX} {fr : Bool} {a b c e o : Expr} {es : List Expr} {ma mb mc me mo : ME} {mr : MA} {pos p apos : Pos} {x y : Str}
theorem tE_tF {K : PySem.W.Frag} {m : ME} {σ : L2.St} {H : Hp} {Q : VK} (h : tE K G O W m σ H Q) : tF K G O W m σ H Q := by
  obtain ⟨A, ms, ρ, R, q⟩ := h
  refine ⟨A, ms, ρ, R, ?_⟩
  cases hm : m ρ with
  | bad => rw [hm] at q; exact q.elim
  | ex x ρ1 => rw [hm] at q; exact q
  | ok d ρ1 =>
    rw [hm] at q
    intro p H' R' _ k hp ow
    have np : ¬ A p := Trk.no (fun a z => R.trk a z) hp
    exact q (.ref p) H' R' k (ow.freeze (fun a z => .inl z) np)
theorem put_post {K : PySem.W.Frag} {i : Nat} {D0 : Ends} {σ : L2.St} {H : Hp} (hx : XC O) (oi : O.contains i = false) (h : tS K G XC Ol O O W fr (msAsg me (mgName i)) D0 σ H) : tAsg (tE K G O W me) (gName i) D0 σ H := by
  obtain ⟨A, ms, ρ, R, q⟩ := h
  have ni : i ∉ O := fun z => by rw [List.contains_iff_mem.mpr z] at oi; cases oi
  refine ⟨A, ms, ρ, R, eb hx q ?_⟩
  intro d ρ1 v H1 _ R1 k r q1
  unfold mgName at q1
  split at q1
  · rename_i ρ2 he
    split at he
    · rename_i hlt
      cases he
      exact q1 _ H1 A ms (R1.put ni hlt r) Tr.refl
    · cases he
  · exact q1.elim
theorem own_post {K : PySem.W.Frag} {i : Nat} {D0 : Ends} {σ : L2.St} {H : Hp} (hx : XC O) (hi : O.contains i = true) (h0 : i ≠ 0 ∨ G.io = none) (hpx : NPx G i) (h : tS K G XC Ol O O W fr (msOwn i me) D0 σ H) : tAsg (tF K G O W me) (gName i) D0 σ H := by
  obtain ⟨A, ms, ρ, R, q⟩ := h
  refine ⟨A, ms, ρ, R, ?_⟩
  unfold msOwn at q
  cases hm : me ρ with
  | bad => rw [hm] at q; exact q.elim
  | ex y ρ1 => rw [hm] at q; exact fun dx H1 R1 k xr => q dx σ H1 A ms O hx R1 (R1.kt k) xr
  | ok d ρ1 =>
    rw [hm] at q
    intro r H1 R1 R2 k hr ow
    have q' : SPost K G XC Ol O W fr A H D0 (if i < ρ1.length then .nx (ρ1.set i (some d)) else .bad) := q
    split at q'
    · rename_i hlt
      refine q' _ H1 _ _ (R2.own (List.contains_iff_mem.mp hi) h0 hlt (R.msne hr) hpx (h0_none R hr) ow) fun a o e n => ⟨(R1.kt k a o e n).1, fun z => z.elim n fun z => ?_⟩
      rw [z, hr] at e
      cases e
    · exact q'.elim
section
variable {i : Nat} {py spos : Pos} {elt tg iter : Expr} {ifs : List Expr} {scope : Scope} {own : List (Str × Nat)} {mi : En → R (List D)} {g : MG} {mt : MT} {tt : TT}
theorem ds_setLc (hx : XC O) (oi : O.contains i = false) (hc : X.calm = true) (hN : X.N.Nodup) (hy : X.N[i]? = some y) (hyl : X.env.scope.names.lookup y = some .local) (hsw : swapsWith (.ListComp elt [⟨tg, iter, ifs, 0⟩] scope pos) (some (.Name y py)) spos.line X.env = pure true) (hv : (ownS own).all (fun i => !O.contains i) = true)
    (hi : DI X G O W tg iter mi) (ok : BlkOk X.N X.env.scope scope own)
    (hg : ∀ (s : Shared) (H : Hp) (C : Addr) (cl : List (Str × Addr)) (fp : List Addr), DG (X.blk s H scope (compEnvC scope cl C X.env) fp) G O (ownS own) tg g)
    (ht : ∀ (s : Shared) (H : Hp) (C : Addr) (cl : List (Str × Addr)) (fp : List Addr), PTs (X.blk s H scope (compEnvC scope cl C X.env) fp) ifs tt) (htt : ∀ σ H Q, tT X.K G O W0 mt σ H Q → tt σ H Q)
    (he : ∀ (s : Shared) (H : Hp) (C : Addr) (cl : List (Str × Addr)) (fp : List Addr), DE (X.blk s H scope (compEnvC scope cl C X.env) fp) G O W0 elt me) (hs : ∀ x, foldedSetIterable iter X.env x = pure x := by intro _; rfl) :
    DS X G XC Ol O O W fr (.Assign [.Name y py] (.ListComp elt [⟨tg, iter, ifs, 0⟩] scope pos) spos) (msAsg (mLc (ownS own) mi g mt me) (mgName i)) :=
  ps_imp (ps_setLc (te := tE X.K G O W0 me) (tt := tt) (g := tG X.K G O (ownS own) g) hc hN hy hyl hsw hi ok hg ht he hs) fun D0 σ H h => lc_go (W := W) hv htt (tE_tF (put_post hx oi h))
theorem ds_ownLc (hx : XC O) (oi : O.contains i = true) (h0 : i ≠ 0 ∨ G.io = none) (hc : X.calm = true) (hN : X.N.Nodup) (hy : X.N[i]? = some y) (hyl : X.env.scope.names.lookup y = some .local) (hsw : swapsWith (.ListComp elt [⟨tg, iter, ifs, 0⟩] scope pos) (some (.Name y py)) spos.line X.env = pure true) (hv : (ownS own).all (fun i => !O.contains i) = true)
    (hi : DI X G O W tg iter mi) (ok : BlkOk X.N X.env.scope scope own)
    (hg : ∀ (s : Shared) (H : Hp) (C : Addr) (cl : List (Str × Addr)) (fp : List Addr), DG (X.blk s H scope (compEnvC scope cl C X.env) fp) G O (ownS own) tg g)
    (ht : ∀ (s : Shared) (H : Hp) (C : Addr) (cl : List (Str × Addr)) (fp : List Addr), PTs (X.blk s H scope (compEnvC scope cl C X.env) fp) ifs tt) (htt : ∀ σ H Q, tT X.K G O W0 mt σ H Q → tt σ H Q)
    (he : ∀ (s : Shared) (H : Hp) (C : Addr) (cl : List (Str × Addr)) (fp : List Addr), DE (X.blk s H scope (compEnvC scope cl C X.env) fp) G O W0 elt me) (hs : ∀ x, foldedSetIterable iter X.env x = pure x := by intro _; rfl)
    (hpx : NPx G i := by first | exact NPx.no rfl | assumption) :
    DS X G XC Ol O O W fr (.Assign [.Name y py] (.ListComp elt [⟨tg, iter, ifs, 0⟩] scope pos) spos) (msOwn i (mLc (ownS own) mi g mt me)) :=
  ps_imp (ps_setLc (te := tE X.K G O W0 me) (tt := tt) (g := tG X.K G O (ownS own) g) hc hN hy hyl hsw hi ok hg ht he hs) fun D0 σ H h => lc_go (W := W) hv htt (own_post hx oi h0 hpx h)
end
theorem takes0 (h : X.xe = fun _ _ => False) : L2N.Takes X W0 := fun u s' ⟨_, _, _, _, _, _, _, _, _, _, _, _, _, _, _, _, z⟩ => z.elim
end
end DL
namespace DL
open L2 PySem PySem.Spec PyProof.Rows
abbrev XF := PySem.W.Frag → Bool
def obX (fa : List He.Fa) (xf : XF) (fn : List He.DefD) (K : PySem.W.Frag) : He.AlD := (xf K && ((fa.all fun f => f.ok K) && fn.all fun d => d.ok K), fn.map fun d => He.fnW K d.at_)
def SaysX (fa : List He.Fa) (xf : XF) (fn : List He.DefD) (K : PySem.W.Frag) : Prop := obX fa xf fn K = He.valD fn
def obXG (n : Nat) (fa : List He.Fa) (xf : XF) (fn : List He.DefD) (g : Addr → Option Obj) : He.AlD := obX fa xf fn (He.frG g (He.asD g n))
def hookX (n : Nat) (fa : List He.Fa) (xf : XF) (fn : List He.DefD) : PySem.W.Hook where
  α := He.AlD
  obs := fun t => obXG n fa xf fn t.heap.get?
  val := fun _ => He.valD fn
  says := fun _ hp => ∃ K : PySem.W.Frag, K.In hp ∧ SaysX fa xf fn K
  of := fun _ _ z => ⟨_, He.frG_in, z⟩
  keeps := fun _ _ _ ⟨K, z, c⟩ k => ⟨K, PySem.W.Frag.In.keeps z k, c⟩
theorem obXG_eq {n : Nat} {fa : List He.Fa} {xf : XF} {fn : List He.DefD} {g : Addr → Option Obj} {t : Shared} (h : ∀ a, g a = t.heap.get? a) : obXG n fa xf fn g = (hookX n fa xf fn).obs t := by
  have z : g = t.heap.get? := funext h
  rw [z] <;> rfl
section
variable {fa : List He.Fa} {xf : XF} {fn : List He.DefD} {K : PySem.W.Frag}
theorem SaysX.x1 (c : SaysX fa xf fn K) : xf K = true := (He.ba (show (xf K && ((fa.all fun f => f.ok K) && fn.all fun d => d.ok K)) = true from congrArg (fun z : He.AlD => z.1) c)).1
theorem SaysX.d (c : SaysX fa xf fn K) : He.SaysD fa fn K := by
  have c1 : (xf K && ((fa.all fun f => f.ok K) && fn.all fun d => d.ok K)) = true := congrArg (fun z : He.AlD => z.1) c
  have c2 : (fn.map fun d => He.fnW K d.at_) = fn.map He.DefD.val := congrArg (fun z : He.AlD => z.2) c
  exact Prod.ext (He.ba c1).2 c2
end
def excB (K : PySem.W.Frag) (x : Str) : Bool :=
  decide (PySem.W.findIn K (.ref (He.ga K x)) "__getattribute__" = some (some (.builtin "BaseException.__getattribute__"))) && (decide (PySem.W.findIn K (.ref (He.ga K x)) "__getattr__" = some none) && (decide (PySem.W.subIn K (.ref (He.ga K x)) (.type "BaseException") = some true) &&
    (PySem.W.hasDictIn K (He.ga K x) && (decide (PySem.W.findIn K (.ref (He.ga K x)) "__class__" = some (some (.builtin "object.__class__"))) && (decide (PySem.W.specialIn K (.builtin "object.__class__") "__get__" = some (some (.builtin "getset_descriptor.__get__"))) &&
      (decide (PySem.W.takesIn K (.builtin "object.__class__") = some true) && decide (PySem.W.mroIn K (He.ga K x) (.type "object") = some true)))))))
theorem excB_ok {K : PySem.W.Frag} {x : Str} (h : excB K x = true) : ExcC K (He.ga K x) := by
  unfold excB at h
  obtain ⟨h1, h⟩ := He.ba h
  obtain ⟨h2, h⟩ := He.ba h
  obtain ⟨h3, h⟩ := He.ba h
  obtain ⟨h4, h⟩ := He.ba h
  obtain ⟨h5, h⟩ := He.ba h
  obtain ⟨h6, h⟩ := He.ba h
  obtain ⟨h7, h8⟩ := He.ba h
  exact ⟨of_decide_eq_true h1, of_decide_eq_true h2, of_decide_eq_true h3, h4, of_decide_eq_true h5, of_decide_eq_true h6, of_decide_eq_true h7, of_decide_eq_true h8⟩
def kitB (K : PySem.W.Frag) (x y : Str) (b : Bool) : Bool := decide (PySem.W.kitOne K (.ref (He.ga K x)) (.ref (He.ga K y)) = some b)
theorem kitB_ok {K : PySem.W.Frag} {x y : Str} {b : Bool} (h : kitB K x y b = true) : PySem.W.kitOne K (.ref (He.ga K x)) (.ref (He.ga K y)) = some b := of_decide_eq_true h
section
variable {X : Cx} {G : Gd} {XC : List Nat → Prop} {Ol O O' O1 : List Nat} {W : WX} {fr : Bool} {a b c e o : Expr} {es : List Expr} {ma mb mc me mo : ME} {mr : MA} {pos p apos : Pos} {x y : Str}
theorem gi_ {x : Str} {i : Int} (hm : ∃ t, X.mg x = some (.int i t)) (hg : Gl X x := by rfl) (hd : (x == ("__debug__" : Str)) = false := by decide) : DE X G O W (.Name x pos) (mK (.int i)) := by
  obtain ⟨t, e⟩ := hm
  exact gv_ (v := .int i) e ⟨t, rfl⟩ (fun _ _ => .int i) hg hd
structure ExcOk (K : PySem.W.Frag) (mg : Str → Option Value) (C : Str) : Prop where
  ex : PySem.W.excIn K (He.ga K C) He.veBase "ValueError.__new__" = true
  kp : PySem.W.keepIn K (.ref (He.ga K C)) = true
  bs : PySem.W.subIn K (.ref (He.ga K C)) (.type "BaseException") = some true
  ty : PySem.W.typeIn K (.ref (He.ga K C)) = some (.type "type")
  gl : mg C = some (.ref (He.ga K C))
theorem ds_raiseC {C m : Str} {j : Nat} {p2 pos2 : Pos} (ec : ExcOk X.K X.mg C) (hx : XC O) (tk : L2N.Takes X W) (hc : X.calm = true := by rfl) (hg : Gl X C := by rfl) (hdb : (C == ("__debug__" : Str)) = false := by decide) : DS X G XC Ol O O' W fr (.Raise (some (.Call (.Name C p) [.Constant (.str m) j p2] [] pos2)) none pos) (msRaise C) :=
  ds_raise hx hc tk (L2N.pmk_own PySem.F.excBase_ValueError ec.ex ec.gl ec.kp (raises_own ec.bs ec.ty) hg hdb)
end
theorem no_gNotIn : NoObj gNotIn := ⟨fun c fs z => by cases z <;> rfl, fun c fs z => by cases z <;> rfl⟩
section
variable {P : Program} {w : World} {K : PySem.W.Frag} {mg : Str → Option Value} {base : Heap} {N : List Str} {qual : Str} {scope : Scope} {f : Addr} {cdv : Value} {A : Around} {outer : List Env} {s : Shared} {H : Hp} {E : XK}
theorem cx_tk : L2N.Takes (cxOf (L2N.CX P w) P w K mg base N qual scope f cdv A outer s H E) (fun cls d _ H' => E cls d H') := L2N.takes_of rfl rfl rfl rfl
theorem cx_pw : PassesOwn (model (cxOf (L2N.CX P w) P w K mg base N qual scope f cdv A outer s H E).prog (cxOf (L2N.CX P w) P w K mg base N qual scope f cdv A outer s H E).w) (cxOf (L2N.CX P w) P w K mg base N qual scope f cdv A outer s H E).A (cxOf (L2N.CX P w) P w K mg base N qual scope f cdv A outer s H E).env (cxOf (L2N.CX P w) P w K mg base N qual scope f cdv A outer s H E).xe := passes_of rfl
end
end DL
namespace DL
open L2 PySem PySem.Spec PyProof.Rows
def Ret.R (r : Ret) (ρ : En) : R D := match r with
  | .rt d _ => .ok d ρ
  | .ex x _ => .ex x ρ
  | .bad => .bad
theorem mCall_R (F : FN) (args : MA) (ρ : En) : mCall F args ρ = (args ρ).bind fun ds ρ1 => (F ds).R ρ1 := rfl
section
variable {ρ ρ1 : En} {d : D} {α β : Type} {x : Xn}
@[simp] theorem bind_ok (a : α) (r : En) (f : α → En → R β) : R.bind (.ok a r) f = f a r := rfl
@[simp] theorem bind_ex (x : Xn) (r : En) (f : α → En → R β) : R.bind (.ex x r : R α) f = .ex x r := rfl
@[simp] theorem obind_ok (a : α) (r : En) (f : α → En → Out) : obind (.ok a r) f = f a r := rfl
@[simp] theorem obind_ex (x : Xn) (r : En) (f : α → En → Out) : obind (.ex x r : R α) f = .ex x r := rfl
@[simp] theorem ret_some (a : α) : ret (some a) ρ = .ok a ρ := rfl
@[simp] theorem ret_none : ret (none : Option α) ρ = .bad := rfl
@[simp] theorem mK_ap : mK d ρ = .ok d ρ := rfl
@[simp] theorem mVar_ap (i : Nat) : mVar i ρ = match ρ[i]? with | some (some d) => .ok d ρ | _ => .bad := by unfold mVar; rfl
@[simp] theorem m1_ap (g : D → Option D) (a : ME) : m1 g a ρ = (a ρ).bind fun x ρ1 => ret (g x) ρ1 := rfl
@[simp] theorem m2_ap (g : D → D → Option D) (a b : ME) : m2 g a b ρ = (a ρ).bind fun x ρ1 => (b ρ1).bind fun y ρ2 => ret (g x y) ρ2 := rfl
@[simp] theorem mIf_ap (c : MT) (a b : ME) : mIf c a b ρ = (c ρ).bind fun k ρ1 => if k = true then a ρ1 else b ρ1 := by
  unfold mIf; cases c ρ with
  | ok k r => cases k <;> rfl
  | ex _ _ => rfl
  | bad => rfl
@[simp] theorem mTest_ap (m : ME) : mTest m ρ = (m ρ).bind fun x ρ1 => ret (asB x) ρ1 := rfl
@[simp] theorem asB_bl (b : Bool) : asB (.bl b) = some b := rfl
@[simp] theorem mTru_ap (m : ME) : mTru m ρ = (m ρ).bind fun x ρ1 => ret (tru x) ρ1 := rfl
@[simp] theorem mNotT_ap (m : MT) : mNotT m ρ = (m ρ).bind fun x ρ1 => .ok (!x) ρ1 := rfl
@[simp] theorem mAndT_ap (a b : MT) : mAndT a b ρ = (a ρ).bind fun k ρ1 => if k = true then b ρ1 else .ok false ρ1 := by
  unfold mAndT; cases a ρ with
  | ok k r => cases k <;> rfl
  | ex _ _ => rfl
  | bad => rfl
@[simp] theorem mOrT_ap (a b : MT) : mOrT a b ρ = (a ρ).bind fun k ρ1 => if k = true then .ok true ρ1 else b ρ1 := by
  unfold mOrT; cases a ρ with
  | ok k r => cases k <;> rfl
  | ex _ _ => rfl
  | bad => rfl
@[simp] theorem mNil_ap : mNil ρ = .ok [] ρ := rfl
@[simp] theorem mCons_ap (a : ME) (b : MA) : mCons a b ρ = (a ρ).bind fun x ρ1 => (b ρ1).bind fun xs ρ2 => .ok (x :: xs) ρ2 := rfl
@[simp] theorem mN_ap (g : List D → Option D) (a : MA) : mN g a ρ = (a ρ).bind fun xs ρ1 => ret (g xs) ρ1 := rfl
@[simp] theorem msNil_ap : msNil ρ = .nx ρ := rfl
@[simp] theorem msSeq_ap (a b : MS) : msSeq a b ρ = match a ρ with | .nx ρ1 => b ρ1 | o => o := rfl
@[simp] theorem msExpr_ap (m : ME) : msExpr m ρ = obind (m ρ) fun _ ρ1 => .nx ρ1 := rfl
@[simp] theorem msAsg_ap (m : ME) (g : MG) : msAsg m g ρ = obind (m ρ) fun d ρ1 => match g d ρ1 with | .ok _ ρ2 => .nx ρ2 | _ => .bad := rfl
@[simp] theorem msOwn_ap (i : Nat) (m : ME) : msOwn i m ρ = obind (m ρ) fun d ρ1 => if i < ρ1.length then .nx (ρ1.set i (some d)) else .bad := rfl
@[simp] theorem msRet_ap (m : ME) : msRet m ρ = obind (m ρ) fun d ρ1 => .rt d ρ1 := rfl
@[simp] theorem msRetN_ap : msRetN ρ = .rt .non ρ := rfl
@[simp] theorem msRetO_ap (j : Nat) : msRetO j ρ = match getO ρ j with | some d => .rt d ρ | none => .bad := rfl
@[simp] theorem msIf_ap (c : MT) (a b : MS) : msIf c a b ρ = obind (c ρ) fun k ρ1 => if k = true then a ρ1 else b ρ1 := rfl
@[simp] theorem msBrk_ap : msBrk ρ = .bk ρ := rfl
@[simp] theorem msCnt_ap : msCnt ρ = .ct ρ := rfl
@[simp] theorem msFor_ap (mi : En → R (List D)) (g : MG) (mb : MS) : msFor mi g mb ρ = obind (mi ρ) fun ds ρ1 => loopL g mb ds ρ1 := rfl
@[simp] theorem msWhile_ap (n : Nat) (c : MT) (mb : MS) : msWhile n c mb ρ = loopW c mb n ρ := rfl
@[simp] theorem msForget_ap (j : Nat) (m : MS) : msForget j m ρ = m (ρ.set j none) := rfl
@[simp] theorem msPar_ap (is : List Nat) (m : MA) : msPar is m ρ = obind (m ρ) fun ds ρ1 => putP is ds ρ1 := rfl
@[simp] theorem msRaise_ap (c : Str) : msRaise c ρ = .ex ⟨c, []⟩ ρ := rfl
@[simp] theorem mgName_ap (i : Nat) : mgName i d ρ = if i < ρ.length then .ok () (ρ.set i (some d)) else .bad := rfl
@[simp] theorem mgNil_ap : mgNil [] ρ = .ok () ρ := rfl
@[simp] theorem mgCons_ap (g : MG) (gs : List D → En → R Unit) (r : List D) : mgCons g gs (d :: r) ρ = (g d ρ).bind fun _ ρ1 => gs r ρ1 := rfl
@[simp] theorem mgTup_ap (n : Nat) (gs : List D → En → R Unit) (ds : List D) : mgTup n gs (.tup ds) ρ = if ds.length = n then gs ds ρ else .bad := rfl
@[simp] theorem putP_nil : putP [] [] ρ = .nx ρ := rfl
@[simp] theorem putP_cons (i : Nat) (is : List Nat) (ds : List D) : putP (i :: is) (d :: ds) ρ = if i < ρ.length then putP is ds (ρ.set i (some d)) else .bad := rfl
@[simp] theorem mItN_ap (g : List D → Option (List D)) (a : MA) : mItN g a ρ = (a ρ).bind fun ds ρ1 => ret (g ds) ρ1 := rfl
@[simp] theorem mIter_ap (m : ME) : mIter m ρ = (m ρ).bind fun d ρ1 => ret (gIter d) ρ1 := rfl
theorem getO_ap (j : Nat) : getO ρ j = match ρ[j]? with | some (some d) => some d | _ => none := by unfold getO; rfl
@[simp] theorem mOM_ap (g : List D → List D → Option (D × List D)) (j : Nat) (args : MA) : mOM g j args ρ = match getO ρ j with
  | some (.lst _) => (args ρ).bind fun ds ρ1 => match getO ρ1 j with
    | some (.lst cs) => match g cs ds with
      | some (z, cs') => .ok z (ρ1.set j (some (.lst cs')))
      | none => .bad
    | _ => .bad
  | _ => .bad := rfl
@[simp] theorem mTruO_ap (j : Nat) : mTruO j ρ = match getO ρ j with | some (.lst l) => .ok (!l.isEmpty) ρ | _ => .bad := rfl
theorem mCallIo_ap (F : FN) (j : Nat) (args : MA) : mCallIo F j args ρ = match getO ρ j with
  | none => .bad
  | some _ => (args ρ).bind fun ds ρ1 => match getO ρ1 j with
    | none => .bad
    | some c => match F (c :: ds) with
      | .rt d o => .ok d (ρ1.set j (some o))
      | .ex x o => .ex x (ρ1.set j (some o))
      | .bad => .bad := rfl
@[simp] theorem mCallV_ap (tab : Str → Option FN) (f : ME) (args : MA) : mCallV tab f args ρ = (f ρ).bind fun d ρ1 => match d with
  | .fn x => match tab x with
    | some F => mCall F args ρ1
    | none => .bad
  | _ => .bad := rfl
@[simp] theorem gTup_ap (xs : List D) : gTup xs = if xs.length ≤ sizeLine then some (.tup xs) else none := rfl
@[simp] theorem gLst_ap (xs : List D) : gLst xs = if xs.length ≤ sizeLine then some (.lst xs) else none := rfl
@[simp] theorem gAdd_ii (i j : Int) : gAdd (.int i) (.int j) = some (.int (i + j)) := rfl
@[simp] theorem gSub_ii (i j : Int) : gSub (.int i) (.int j) = some (.int (i - j)) := rfl
theorem gMul_ii (i j : Int) : gMul (.int i) (.int j) = if okMul i j = true then some (.int (i * j)) else none := rfl
theorem gDiv_ii (i j : Int) : gDiv (.int i) (.int j) = if j ≠ 0 ∧ j.natAbs.log2 < 9000 then some (.int (i.fdiv j)) else none := rfl
theorem gMod_ii (i j : Int) : gMod (.int i) (.int j) = if j ≠ 0 then some (.int (i.fmod j)) else none := rfl
@[simp] theorem gNeg_i (i : Int) : gNeg (.int i) = some (.int (-i)) := rfl
@[simp] theorem gLt_ii (i j : Int) : gLt (.int i) (.int j) = some (.bl (decide (i < j))) := rfl
@[simp] theorem gGt_ii (i j : Int) : gGt (.int i) (.int j) = some (.bl (decide (j < i))) := rfl
@[simp] theorem gLe_ii (i j : Int) : gLe (.int i) (.int j) = some (.bl (decide (i ≤ j))) := rfl
@[simp] theorem gGe_ii (i j : Int) : gGe (.int i) (.int j) = some (.bl (decide (j ≤ i))) := rfl
@[simp] theorem gEq_ii (i j : Int) : gEq (.int i) (.int j) = some (.bl (decide (i = j))) := rfl
@[simp] theorem gNe_ii (i j : Int) : gNe (.int i) (.int j) = some (.bl (!decide (i = j))) := rfl
@[simp] theorem gEq_ss (i j : Str) : gEq (.str i) (.str j) = some (.bl (decide (i = j))) := rfl
@[simp] theorem gNe_ss (i j : Str) : gNe (.str i) (.str j) = some (.bl (!decide (i = j))) := rfl
@[simp] theorem gIs_n (d : D) : gIs d .non = some (.bl (isNon d)) := by cases d <;> rfl
@[simp] theorem gIsNot_n (d : D) : gIsNot d .non = some (.bl (!isNon d)) := by cases d <;> rfl
@[simp] theorem gIs_b (a b : Bool) : gIs (.bl a) (.bl b) = some (.bl (decide (a = b))) := rfl
@[simp] theorem gIsNot_b (a b : Bool) : gIsNot (.bl a) (.bl b) = some (.bl (!decide (a = b))) := rfl
@[simp] theorem gInt_i (i : Int) : gInt [.int i] = some (.int i) := rfl
@[simp] theorem gInt_b (k : Bool) : gInt [.bl k] = some (.int (if k then 1 else 0)) := rfl
@[simp] theorem gAbs_i (i : Int) : gAbs [.int i] = some (.int (if i < 0 then -i else i)) := rfl
@[simp] theorem mAnd_ap (a b : ME) : mAnd a b ρ = (a ρ).bind fun x ρ1 => (ret (tru x) ρ1).bind fun k ρ2 => if k = true then b ρ2 else .ok x ρ2 := by
  unfold mAnd
  cases a ρ with
  | ok x r =>
    simp only [bind_ok]
    try (cases tru x with
    | none => rfl
    | some k => cases k <;> rfl)
  | ex _ _ => rfl
  | bad => rfl
@[simp] theorem tru_bl (b : Bool) : tru (.bl b) = some b := rfl
@[simp] theorem gIx_t (l : List D) (i : Int) : gIx (.tup l) (.int i) = L2.atI l i := rfl
@[simp] theorem gIx_l (l : List D) (i : Int) : gIx (.lst l) (.int i) = L2.atI l i := rfl
@[simp] theorem gRange1_i (j : Int) : gRange1 [.int j] = if okR j = true then some (rangeL 0 j.toNat) else none := rfl
@[simp] theorem Ret.R_rt (d o : D) : Ret.R (.rt d o) ρ = .ok d ρ := rfl
@[simp] theorem Ret.R_ex (x : Xn) (o : D) : Ret.R (.ex x o) ρ = .ex x ρ := rfl
theorem mLc_ap (vs : List Nat) (mi : En → R (List D)) (g : MG) (mt : MT) (me : ME) : mLc vs mi g mt me ρ = (mi ρ).bind fun ds ρ1 => match lcLoop vs g mt me ds ρ1 with
  | .ok ys ρ2 => if ys.length ≤ sizeLine then .ok (.lst ys) (restE ρ1 vs ρ2) else .bad
  | _ => .bad := rfl
theorem mTryAs_ap (mt : Str → Option Bool) (i : Nat) (mb : MS) (ms : Str → MS) : msTryAs mt i mb ms ρ = match mb ρ with
  | .ex y ρ1 => match mt y.c with
    | some true => match y.fs with
      | [] => if i < ρ1.length then fgt i (ms y.c (ρ1.set i none)) else .bad
      | _ => .bad
    | some false => .ex y ρ1
    | none => .bad
  | o => o := rfl
end
theorem lg {n k : Nat} (h : n < 2 ^ k) (hk : 0 < k) : n.log2 < k := by
  by_cases z : n = 0
  · subst z; simpa using hk
  · exact (Nat.log2_lt z).mpr h
theorem sm_mul {a b : Int} {i j : Nat} (h1 : a.natAbs < 2 ^ i) (h2 : b.natAbs < 2 ^ j) : (a * b).natAbs < 2 ^ (i + j) := by
  rw [Int.natAbs_mul, Nat.pow_add]
  exact Nat.mul_lt_mul'' h1 h2
theorem sm_add {a b : Int} {i : Nat} (h1 : a.natAbs < 2 ^ i) (h2 : b.natAbs < 2 ^ i) : (a + b).natAbs < 2 ^ (i + 1) := by
  have := Int.natAbs_add_le a b
  rw [Nat.pow_succ]
  omega
theorem sm_sub {a b : Int} {i : Nat} (h1 : a.natAbs < 2 ^ i) (h2 : b.natAbs < 2 ^ i) : (a - b).natAbs < 2 ^ (i + 1) := by
  rw [Nat.pow_succ]
  omega
theorem sm_up {a : Int} {i j : Nat} (h : a.natAbs < 2 ^ i) (l : i ≤ j) : a.natAbs < 2 ^ j := Nat.lt_of_lt_of_le h (Nat.pow_le_pow_right (by decide) l)
theorem okMul_of {a b : Int} {i j : Nat} (h1 : a.natAbs < 2 ^ i) (h2 : b.natAbs < 2 ^ j) (hi : 0 < i) (hj : 0 < j) (h : i + j < 100000000) : okMul a b = true := by
  unfold okMul
  have := lg h1 hi
  have := lg h2 hj
  exact decide_eq_true (by omega)
theorem gMul_sm {a b : Int} {i j : Nat} (h1 : a.natAbs < 2 ^ i) (h2 : b.natAbs < 2 ^ j) (hi : 0 < i) (hj : 0 < j) (h : i + j < 100000000) : gMul (.int a) (.int b) = some (.int (a * b)) := by rw [gMul_ii, if_pos (okMul_of h1 h2 hi hj h)]
theorem gDiv_sm {a b : Int} {j : Nat} (h0 : b ≠ 0) (h2 : b.natAbs < 2 ^ j) (hj : 0 < j) (h : j ≤ 9000) : gDiv (.int a) (.int b) = some (.int (a.fdiv b)) := by
  rw [gDiv_ii, if_pos ⟨h0, Nat.lt_of_lt_of_le (lg h2 hj) h⟩]
theorem gMod_nz {a b : Int} (h0 : b ≠ 0) : gMod (.int a) (.int b) = some (.int (a.fmod b)) := by rw [gMod_ii, if_pos h0]
end DL
namespace DL
open L2 PySem PySem.Spec PyProof.Rows
def mqNumber : MS := (msSeq (msIf (mTest (m2 gLt (mVar 0) (mK (.int 0)))) (msRet (m2 gSub (mK (.int 0)) (mVar 0))) msNil) (msRet (mVar 0)))
def qNumber : FN := runM 1 1 [] false mqNumber
def mqInner : MS := (msSeq (msIf (mTest (m2 gEq (mVar 3) (mK (.int 0)))) msBrk msNil) (msSeq (msExpr (mOM gAppend 1 (mCons (m2 gMod (mN gInt (mCons (mVar 3) mNil)) (mK (.int 1000))) mNil))) (msAsg (m2 gDiv (mVar 3) (mK (.int 1000))) (mgName 3))))
def mqBody : MS := (msSeq (msAsg (mCall qNumber (mCons (mVar 2) mNil)) (mgName 3)) (msIf (mTest (m2 gGe (mVar 3) (mK (.int 1000000000000000000)))) (msFor (mItN gRange1 (mCons (mK (.int 60)) mNil)) (mgName 4) mqInner) (msSeq (msAsg (m2 gMod (mN gInt (mCons (m2 gAdd (m2 gMul (mVar 3) (mK (.int 48271))) (mK (.int 11))) mNil)) (mK (.int 2147483647))) (mgName 5)) (msSeq (msAsg (m2 gMod (mN gInt (mCons (m2 gAdd (m2 gMul (mVar 5) (mK (.int 69621))) (mVar 3)) mNil)) (mK (.int 2147483629))) (mgName 6)) (msExpr (mOM gExtend 1 (mCons (mN gLst (mCons (m2 gMod (mN gInt (mCons (mVar 3) mNil)) (mK (.int 1000))) (mCons (m2 gMod (mN gInt (mCons (mVar 5) mNil)) (mK (.int 1000))) (mCons (m2 gMod (mN gInt (mCons (mVar 6) mNil)) (mK (.int 1000))) mNil)))) mNil)))))))
def mqNext : MS := (msSeq (msIf (mTruO 0) (msRet (mOM gPop 0 mNil)) msNil) (msRet (mK (.int 0))))
def qNext : FN := runM 1 1 [] false mqNext
theorem qNumber_v (n : Int) (ρ : En) : (qNumber [.int n]).R ρ = .ok (.int (if n < 0 then -n else n)) ρ := by
  by_cases h : n < 0
  · simp [qNumber, runM, mqNumber, pad, h]
  · simp [qNumber, runM, mqNumber, pad, h]
theorem getO_1 (a : Option D) (d : D) (r : En) : getO (a :: some d :: r) 1 = some d := rfl
theorem getO_0 (d : D) (r : En) : getO (some d :: r) 0 = some d := rfl
def drawI (l : List Int) : Int := l.getLastD 0
theorem qNext_v (l : List Int) : qNext [.lst (l.map .int)] = .rt (.int (drawI l)) (.lst (l.dropLast.map .int)) := by
  rcases List.eq_nil_or_concat l with h | ⟨r, z, h⟩
  · subst h; rfl
  · subst h
    simp [qNext, runM, mqNext, pad, getO_0, gPop, drawI, io0]
end DL
namespace DL
open L2 PySem PySem.Spec PyProof.Rows
theorem eu_step {b r k : Nat} (hb : b < 2 ^ (k + 1)) (hr : 0 < r) (hrb : r < b) : b % r < 2 ^ k := by
  have h1 := Nat.mod_lt b hr
  rw [Nat.pow_succ] at hb
  by_cases h : 2 * r ≤ b
  · omega
  · have e : b % r = b - r := by rw [Nat.mod_eq_sub_mod (by omega), Nat.mod_eq_of_lt (by omega)]
    omega
theorem fmod_nat (a b : Nat) : (a : Int).fmod (b : Int) = ((a % b : Nat) : Int) := by
  rw [Int.fmod_eq_emod_of_nonneg _ (Int.natCast_nonneg b)]
  exact (Int.natCast_emod a b).symm
def mEuC : MT := mTest (m2 gNe (mVar 1) (mK (.int 0)))
def mEuB : MS := msPar [0, 1] (mCons (mVar 1) (mCons (m2 gMod (mVar 0) (mVar 1)) mNil))
theorem eu_zero (a n : Nat) : loopW mEuC mEuB (n + 1) [some (.int (a : Int)), some (.int ((0 : Nat) : Int))] = .nx [some (.int (a : Int)), some (.int 0)] := by
  simp [loopW, mEuC]
theorem eu_one {a b n : Nat} (hb : b ≠ 0) : loopW mEuC mEuB (n + 1) [some (.int (a : Int)), some (.int (b : Int))] = loopW mEuC mEuB n [some (.int (b : Int)), some (.int ((a % b : Nat) : Int))] := by
  have h : (b : Int) ≠ 0 := by omega
  rw [← fmod_nat]
  simp [loopW, mEuC, mEuB, h, gMod_nz h, hb]
theorem eu_loop : ∀ (k a b n : Nat), b < 2 ^ k → 2 * k + 1 ≤ n → loopW mEuC mEuB n [some (.int (a : Int)), some (.int (b : Int))] = .nx [some (.int (Nat.gcd a b : Nat)), some (.int 0)]
  | k, a, b, 0, _, h => by omega
  | 0, a, b, n + 1, hb, h => by
    obtain rfl : b = 0 := by simpa using hb
    rw [Nat.gcd_zero_right]
    exact eu_zero a n
  | k + 1, a, b, n + 1, hb, h => by
    by_cases b0 : b = 0
    · subst b0
      rw [Nat.gcd_zero_right]
      exact eu_zero a n
    · rw [eu_one b0]
      have g1 : Nat.gcd a b = Nat.gcd b (a % b) := by rw [Nat.gcd_comm a b, Nat.gcd_rec b a, Nat.gcd_comm]
      by_cases r0 : a % b = 0
      · rw [g1, r0, Nat.gcd_zero_right]
        obtain ⟨m, rfl⟩ : ∃ m, n = m + 1 := ⟨n - 1, by omega⟩
        exact eu_zero b m
      · have hrb := Nat.mod_lt a (Nat.pos_of_ne_zero b0)
        obtain ⟨m, rfl⟩ : ∃ m, n = m + 1 := ⟨n - 1, by omega⟩
        rw [eu_one r0]
        have g2 : Nat.gcd b (a % b) = Nat.gcd (a % b) (b % (a % b)) := by rw [Nat.gcd_comm b, Nat.gcd_rec (a % b) b, Nat.gcd_comm]
        rw [g1, g2]
        exact eu_loop k (a % b) (b % (a % b)) m (eu_step hb (Nat.pos_of_ne_zero r0) hrb) (by omega)
def mqDivisor : MS := (msSeq (msPar [0, 1] (mCons (mN gAbs (mCons (mVar 0) mNil)) (mCons (mN gAbs (mCons (mVar 1) mNil)) mNil))) (msSeq (msWhile 1000000 mEuC mEuB) (msRet (mVar 0))))
def qDivisor : FN := runM 2 2 [] false mqDivisor
theorem abs_cast (a : Int) : (if a < 0 then -a else a) = ((a.natAbs : Nat) : Int) := by split <;> omega
theorem qDivisor_v (a b : Int) (hb : b.natAbs < 2 ^ 8000) (ρ : En) : (qDivisor [.int a, .int b]).R ρ = .ok (.int (Int.gcd a b : Nat)) ρ := by
  have e := eu_loop 8000 a.natAbs b.natAbs 1000000 hb (by decide)
  rw [Int.gcd_eq_natAbs_gcd_natAbs]
  simp [qDivisor, runM, mqDivisor, pad, abs_cast, e]
def mEv : MS := (msSeq (msIf (mTest (m2 gEq (mVar 3) (mK (.int 0)))) msBrk msNil) (msPar [2, 3] (mCons (mVar 3) (mCons (m2 gMod (mN gInt (mCons (mVar 2) mNil)) (mVar 3)) mNil))))
theorem ev_zero (x y : Option D) (a : Nat) (o : Option D) : ∀ ds : List D, ∃ o', loopL (mgName 4) mEv ds [x, y, some (.int (a : Int)), some (.int ((0 : Nat) : Int)), o] = .nx [x, y, some (.int (a : Int)), some (.int 0), o']
  | [] => ⟨o, rfl⟩
  | d :: r => ⟨some d, by simp [loopL, mEv]⟩
theorem ev_one (x y : Option D) {a b : Nat} (o : Option D) (hb : b ≠ 0) (d : D) (ds : List D) : loopL (mgName 4) mEv (d :: ds) [x, y, some (.int (a : Int)), some (.int (b : Int)), o] = loopL (mgName 4) mEv ds [x, y, some (.int (b : Int)), some (.int ((a % b : Nat) : Int)), some d] := by
  have h : (b : Int) ≠ 0 := by omega
  rw [← fmod_nat]
  simp [loopL, mEv, h, gMod_nz h, hb]
theorem ev_loop (x y : Option D) : ∀ (k a b : Nat) (o : Option D) (ds : List D), b < 2 ^ k → 2 * k ≤ ds.length → ∃ o', loopL (mgName 4) mEv ds [x, y, some (.int (a : Int)), some (.int (b : Int)), o] = .nx [x, y, some (.int (Nat.gcd a b : Nat)), some (.int 0), o']
  | 0, a, b, o, ds, hb, h => by
    obtain rfl : b = 0 := by simpa using hb
    rw [Nat.gcd_zero_right]
    exact ev_zero x y a o ds
  | k + 1, a, b, o, [], hb, h => by simp at h
  | k + 1, a, b, o, [_], hb, h => by simp at h; omega
  | k + 1, a, b, o, d :: d2 :: ds, hb, h => by
    by_cases b0 : b = 0
    · subst b0
      rw [Nat.gcd_zero_right]
      exact ev_zero x y a o _
    · rw [ev_one x y o b0]
      have g1 : Nat.gcd a b = Nat.gcd b (a % b) := by rw [Nat.gcd_comm a b, Nat.gcd_rec b a, Nat.gcd_comm]
      by_cases r0 : a % b = 0
      · rw [g1, r0, Nat.gcd_zero_right]
        exact ev_zero x y b _ _
      · have hrb := Nat.mod_lt a (Nat.pos_of_ne_zero b0)
        rw [ev_one x y _ r0]
        have g2 : Nat.gcd b (a % b) = Nat.gcd (a % b) (b % (a % b)) := by rw [Nat.gcd_comm b, Nat.gcd_rec (a % b) b, Nat.gcd_comm]
        rw [g1, g2]
        exact ev_loop x y k (a % b) (b % (a % b)) _ ds (eu_step hb (Nat.pos_of_ne_zero r0) hrb) (by simp at h; omega)
def mqLD (mi : En → R (List D)) : MS := (msSeq (msAsg (mN gAbs (mCons (mVar 0) mNil)) (mgName 2)) (msSeq (msAsg (mN gAbs (mCons (mVar 1) mNil)) (mgName 3)) (msSeq (msFor mi (mgName 4) mEv) (msRet (mVar 2)))))
def qLDivisor : FN := runM 5 2 [] false (mqLD (mItN gRange1 (mCons (m2 gPow (mK (.int 10)) (mK (.int 9))) mNil)))
theorem rangeL_length (i : Int) (n : Nat) : (rangeL i n).length = n := by simp [rangeL]
theorem mqLD_v {mi : En → R (List D)} {ds : List D} (hmi : ∀ ρ, mi ρ = .ok ds ρ) (hl : 16000 ≤ ds.length) (a b : Int) (hb : b.natAbs < 2 ^ 8000) (ρ : En) : (runM 5 2 [] false (mqLD mi) [.int a, .int b]).R ρ = .ok (.int (Int.gcd a b : Nat)) ρ := by
  obtain ⟨o', e⟩ := ev_loop (some (.int a)) (some (.int b)) 8000 a.natAbs b.natAbs none ds hb hl
  rw [Int.gcd_eq_natAbs_gcd_natAbs]
  simp [runM, mqLD, pad, abs_cast, hmi, e]
theorem p9 : gPow (.int 10) (.int 9) = some (.int 1000000000) := by
  have c : CPow 10 9 := by decide
  show (if CPow 10 9 then some (D.int (10 ^ (9 : Int).toNat)) else none) = _
  rw [if_pos c] <;> rfl
theorem r9 : ∃ ds, gRange1 [.int 1000000000] = some ds ∧ 16000 ≤ ds.length := by
  have ok9 : okR 1000000000 = true := by decide
  exact ⟨rangeL 0 (Int.toNat 1000000000), by rw [gRange1_i, if_pos ok9], by rw [rangeL_length]; decide⟩
theorem qLDivisor_v (a b : Int) (hb : b.natAbs < 2 ^ 8000) (ρ : En) : (qLDivisor [.int a, .int b]).R ρ = .ok (.int (Int.gcd a b : Nat)) ρ := by
  obtain ⟨ds, hds, hl⟩ := r9
  refine mqLD_v (fun ρ => ?_) hl a b hb ρ
  rw [mItN_ap, mCons_ap, m2_ap, mK_ap, bind_ok, mK_ap, bind_ok, p9, ret_some, bind_ok, mNil_ap, bind_ok, bind_ok, hds, ret_some]
def sgcd (a b : Int) : Int := if b < 0 then -(Int.gcd a b : Int) else (Int.gcd a b : Int)
def low (a b : Int) : Int × Int := (a.fdiv (sgcd a b), b.fdiv (sgcd a b))
def tupI (p : Int × Int) : D := .tup [.int p.1, .int p.2]
def isNum (a b : Int) : Bool := decide (1 ≤ b) && decide (Int.gcd a b = 1)
theorem low_sm {a b : Int} {i j : Nat} (h1 : a.natAbs < 2 ^ i) (h2 : b.natAbs < 2 ^ j) : (low a b).1.natAbs < 2 ^ i ∧ (low a b).2.natAbs < 2 ^ j :=
  ⟨Nat.lt_of_le_of_lt (Int.natAbs_fdiv_le_natAbs _ _) h1, Nat.lt_of_le_of_lt (Int.natAbs_fdiv_le_natAbs _ _) h2⟩
theorem low_num {a b : Int} (h : b ≠ 0) : isNum (low a b).1 (low a b).2 = true := by
  have g0 : 0 < Int.gcd a b := Int.gcd_pos_of_ne_zero_right a h
  have da : (Int.gcd a b : Int) ∣ a := Int.gcd_dvd_left a b
  have db : (Int.gcd a b : Int) ∣ b := Int.gcd_dvd_right a b
  obtain ⟨x, hx⟩ := da
  obtain ⟨y, hy⟩ := db
  generalize hg : Int.gcd a b = g at *
  have gi : (g : Int) ≠ 0 := by omega
  have cop : Int.gcd x y = 1 := by
    have e : Int.gcd a b = g * Int.gcd x y := by
      rw [hx, hy, Int.gcd_mul_left]
      simp
    rw [hg] at e
    exact Nat.eq_of_mul_eq_mul_left g0 (by omega)
  unfold low sgcd isNum
  rw [hg]
  by_cases n : b < 0
  · rw [if_pos n]
    have e1 : a.fdiv (-(g : Int)) = -x := by
      have : a = (-x) * (-(g : Int)) := by rw [hx, Int.neg_mul_neg, Int.mul_comm]
      rw [this, Int.mul_fdiv_cancel _ (by omega)]
    have e2 : b.fdiv (-(g : Int)) = -y := by
      have : b = (-y) * (-(g : Int)) := by rw [hy, Int.neg_mul_neg, Int.mul_comm]
      rw [this, Int.mul_fdiv_cancel _ (by omega)]
    rw [e1, e2]
    have y0 : y < 0 := by
      by_cases q : 0 ≤ y
      · have : 0 ≤ (g : Int) * y := Int.mul_nonneg (by omega) q
        omega
      · omega
    simp [cop]
    omega
  · rw [if_neg n]
    have e1 : a.fdiv (g : Int) = x := by rw [hx, Int.mul_comm, Int.mul_fdiv_cancel _ gi]
    have e2 : b.fdiv (g : Int) = y := by rw [hy, Int.mul_comm, Int.mul_fdiv_cancel _ gi]
    rw [e1, e2]
    have y0 : 0 < y := by
      by_cases q : y ≤ 0
      · have : (g : Int) * y ≤ 0 := Int.mul_nonpos_of_nonneg_of_nonpos (by omega) q
        omega
      · omega
    simp [cop]
    omega
theorem int_len {a : Int} (h : a.natAbs < 2 ^ 1900) : (Str.ofString (toString a)).length ≤ 2000 := by
  have e := int_text_length_le (k := 1900) (by decide) (lg h (by decide))
  rw [PySem.ofString_length]; omega
end DL
namespace DL
open L2 PySem PySem.Spec PyProof.Rows
section
variable {X : Cx} {G : Gd} {O : List Nat} {W : WX} {a b e o : Expr} {es : List Expr} {ma me mo : ME} {mr : MA} {pos p apos : Pos} {c : Str} {j : Nat}
variable {XC : List Nat → Prop} {Ol O' : List Nat} {fr : Bool} {y : Str} {i : Nat} {py spos : Pos} {elt tg iter cnd : Expr} {scope : Scope} {own : List (Str × Nat)} {mi : En → R (List D)} {g : MG} {mt : MT}
theorem df_lc1 (hc : X.calm = true) (hN : X.N.Nodup) (hv : (ownS own).all (fun i => !O.contains i) = true) (hi : DI X G O W tg iter mi) (ok : BlkOk X.N X.env.scope scope own)
    (hg : ∀ (s : Shared) (H : Hp) (C : Addr) (cl : List (Str × Addr)) (fp : List Addr), DG (X.blk s H scope (compEnvC scope cl C X.env) fp) G O (ownS own) tg g)
    (ht : ∀ (s : Shared) (H : Hp) (C : Addr) (cl : List (Str × Addr)) (fp : List Addr), DT (X.blk s H scope (compEnvC scope cl C X.env) fp) G O W0 cnd mt)
    (he : ∀ (s : Shared) (H : Hp) (C : Addr) (cl : List (Str × Addr)) (fp : List Addr), DE (X.blk s H scope (compEnvC scope cl C X.env) fp) G O W0 elt me) (hs : ∀ x, foldedSetIterable iter X.env x = pure x := by intro _; rfl) :
    DF X G O W (.ListComp elt [⟨tg, iter, [cnd], 0⟩] scope pos) (mLc (ownS own) mi g mt me) := df_lc (tt := tT X.K G O W0 mt) hc hN hv hi ok hg (fun s H C cl fp => pts_one (ht s H C cl fp)) (fun _ _ _ z => z) he hs
theorem ds_setLc1 (hx : XC O) (oi : O.contains i = false) (hc : X.calm = true) (hN : X.N.Nodup) (hy : X.N[i]? = some y) (hyl : X.env.scope.names.lookup y = some .local) (hsw : swapsWith (.ListComp elt [⟨tg, iter, [cnd], 0⟩] scope pos) (some (.Name y py)) spos.line X.env = pure true) (hv : (ownS own).all (fun i => !O.contains i) = true)
    (hi : DI X G O W tg iter mi) (ok : BlkOk X.N X.env.scope scope own)
    (hg : ∀ (s : Shared) (H : Hp) (C : Addr) (cl : List (Str × Addr)) (fp : List Addr), DG (X.blk s H scope (compEnvC scope cl C X.env) fp) G O (ownS own) tg g)
    (ht : ∀ (s : Shared) (H : Hp) (C : Addr) (cl : List (Str × Addr)) (fp : List Addr), DT (X.blk s H scope (compEnvC scope cl C X.env) fp) G O W0 cnd mt)
    (he : ∀ (s : Shared) (H : Hp) (C : Addr) (cl : List (Str × Addr)) (fp : List Addr), DE (X.blk s H scope (compEnvC scope cl C X.env) fp) G O W0 elt me) (hs : ∀ x, foldedSetIterable iter X.env x = pure x := by intro _; rfl) :
    DS X G XC Ol O O W fr (.Assign [.Name y py] (.ListComp elt [⟨tg, iter, [cnd], 0⟩] scope pos) spos) (msAsg (mLc (ownS own) mi g mt me) (mgName i)) := ds_setLc (tt := tT X.K G O W0 mt) hx oi hc hN hy hyl hsw hv hi ok hg (fun s H C cl fp => pts_one (ht s H C cl fp)) (fun _ _ _ z => z) he hs
end
end DL
namespace DL
open L2 PySem PySem.Spec PyProof.Rows
end DL
namespace DL
open L2 PySem PySem.Spec PyProof.Rows
end DL
namespace DL
open L2 PySem PySem.Spec PyProof.Rows
section
variable {K : PySem.W.Frag} {A A' : Addr → Prop} {H H' : Hp}
theorem RpF.look : ∀ {vs : List (Str × V)} {ds : List (Str × D)} {f : Str} {d : D}, RpF K A H vs ds → ds.lookup f = some d → ∃ v, vs.lookup f = some v ∧ Rp K A H v d
  | _, _, f, d, .nil, e => by cases e
  | _, _, f, d, .cons (f := g) h q, e => by
    by_cases z : f = g
    · subst z
      simp only [List.lookup, beq_self_eq_true] at e ⊢
      cases e
      exact ⟨_, rfl, h⟩
    · have zb : (f == g) = false := by simpa using z
      simp only [List.lookup, zb] at e ⊢
      exact RpF.look q e
theorem RpF.lookN : ∀ {vs : List (Str × V)} {ds : List (Str × D)} {f : Str}, RpF K A H vs ds → ds.lookup f = none → vs.lookup f = none
  | _, _, f, .nil, e => rfl
  | _, _, f, .cons (f := g) h q, e => by
    by_cases z : f = g
    · subst z
      simp only [List.lookup, beq_self_eq_true] at e
      cases e
    · have zb : (f == g) = false := by simpa using z
      simp only [List.lookup, zb] at e ⊢
      exact RpF.lookN q e
def putD (f : Str) (v : D) : List (Str × D) → List (Str × D)
  | [] => [(f, v)]
  | (g, x) :: r => if g = f then (g, v) :: r else (g, x) :: putD f v r
theorem RpF.put : ∀ {vs : List (Str × V)} {ds : List (Str × D)} {f : Str} {v : V} {d : D}, RpF K A H vs ds → Rp K A H v d → RpF K A H (putF f v vs) (putD f d ds)
  | _, _, f, v, d, .nil, q => .cons q .nil
  | _, _, f, v, d, .cons (f := g) h t, q => by
    unfold putF putD
    by_cases z : g = f
    · rw [if_pos z, if_pos z]; exact .cons q t
    · rw [if_neg z, if_neg z]; exact .cons h (RpF.put t q)
theorem RpF.length : ∀ {vs : List (Str × V)} {ds : List (Str × D)}, RpF K A H vs ds → vs.length = ds.length
  | _, _, .nil => rfl
  | _, _, .cons _ q => by rw [List.length_cons, List.length_cons, RpF.length q]
end
def FldC (K : PySem.W.Frag) (cls : Str → Bool) (f : Str) : Prop := ∀ c, cls c = true → Cls K (He.ga K c) ∧ NoAttr K (He.ga K c) f
def gFld (cls : Str → Bool) (f : Str) : D → Option D
  | .obj c fs => if cls c = true then fs.lookup f else none
  | _ => none
section
variable {X : Cx} {G : Gd} {XC : List Nat → Prop} {Ol O O' O1 : List Nat} {W : WX} {fr : Bool} {a b c e o : Expr} {es : List Expr} {ma mb mc me mo : ME} {mr : MA} {pos p apos cpos : Pos} {x y f m : Str} {py : Pos} {cls : Str → Bool}
theorem gFld_some {d z : D} (e : gFld cls f d = some z) : ∃ c fs, d = .obj c fs ∧ cls c = true ∧ fs.lookup f = some z := by
  cases d with
  | obj c fs =>
    have e' : (if cls c = true then fs.lookup f else none) = some z := e
    split at e'
    · rename_i h; exact ⟨c, fs, rfl, h, e'⟩
    · cases e'
  | _ => cases e
theorem de_fld (hc : FldC X.K cls f) (ha : DE X G O W e me) (hb : attributeBase e f X.env (eval e X.env) = eval e X.env := by rfl) : DE X G O W (.Attribute e f pos) (m1 (gFld cls f) me) := by
  refine pe_imp (pe_fld ha hb) fun σ H Q ⟨A, ms, ρ, R, q⟩ => ⟨A, ms, ρ, R, q.bind.mono ?_⟩
  rintro x H1 ⟨d, ρ1, R1, k1, r1, q1⟩
  obtain ⟨z, hz, q2⟩ := rp_of R1 q1
  obtain ⟨c, fs, rfl, h1, h2⟩ := gFld_some hz
  cases r1 with
  | obj ha na rf =>
    obtain ⟨v, hv, rv⟩ := rf.look h2
    obtain ⟨i1, i2⟩ := hc c h1
    exact ⟨_, _, _, _, v, rfl, ha, i1, i2, hv, q2 v H1 (Same.refl _) rv⟩
theorem own_obj {K : PySem.W.Frag} {A : Addr → Prop} {H : Hp} {p : Addr} {c : Str} {fs : List (Str × D)} (h : Own K A H p (.obj c fs)) : ∃ dx ws, H p = some (.ins (He.ga K c) dx ws) ∧ RpF K A H ws fs := by
  cases h with
  | obj e q => exact ⟨_, _, e, q⟩
def msFld (cls : Str → Bool) (f : Str) (j : Nat) (m : ME) : MS := fun ρ => obind (m ρ) fun d ρ1 => match getO ρ1 j with
  | some (.obj c fs) => if cls c = true ∧ fs.length < 1000 then .nx (ρ1.set j (some (.obj c (putD f d fs)))) else .bad
  | _ => .bad
theorem RpF.upd {K : PySem.W.Frag} {A : Addr → Prop} {H : Hp} {p : Addr} {o : HO} {vs : List (Str × V)} {ds : List (Str × D)} (h : RpF K A H vs ds) (a : A p) : RpF K A (L2.upd H p o) vs ds := h.tr fun b o e n => ⟨upd_out b o e fun z => n (z ▸ a), n⟩
theorem ds_fld {j : Nat} (hx : XC O) (hj : O.contains j = true) (hc : FldC X.K cls f) (hy : PE X (.Name y py) (tVar j)) (he : DE X G O W e me) (hs : swapsWith e (some (.Attribute (.Name y py) f p)) pos.line X.env = pure false := by rfl) :
    DS X G XC Ol O O W fr (.Assign [.Attribute (.Name y py) f p] e pos) (msFld cls f j me) := by
  refine ps_imp (ps_fld hy he hs) fun D0 σ H ⟨A, ms, ρ, R, q⟩ => ⟨A, ms, ρ, R, eb hx q ?_⟩
  intro d ρ1 v H1 _ R1 k1 r q1
  split at q1
  · rename_i c fs hd
    split at q1
    · rename_i hz
      obtain ⟨p, e0, e1, oj⟩ := own_at R1 hj hd
      obtain ⟨dx, ws, hp, rf⟩ := own_obj oj
      have hj' := List.contains_iff_mem.mp hj
      have ap := R1.inA j p hj' e0
      obtain ⟨i1, i2⟩ := hc c hz.1
      refine ⟨_, e1, p, _, dx, ws, rfl, hp, i1, i2, by rw [rf.length]; exact hz.2, ?_⟩
      refine q1 σ _ A ms (R1.setOwn hj' (getO_some hd) e0 upd_out (.obj upd_same ((rf.upd ap).put (r.upd ap)))) ?_
      exact fun a o e n => ⟨upd_out a o e fun z => n (z ▸ ap), n⟩
    · exact q1.elim
  · exact q1.elim
theorem make_guards {A : Around} {C : Addr} {us : List Value} {kw : List (Str × Value)} (h : A.guards = some []) : (A.under (.builtin "type.__call__" ⟨.ref C :: us, kw⟩)).guards = some [] := by
  first | exact h | simpa [Around.under, Code.guards, pushGuards, guardIds, Code.isGuard] using h
section
variable {k : Nat} {ff C : Addr} {F : FN} {pins : List (Addr × Obj)} {σ : L2.St} {H : Hp} {s : Shared} {Q : VK} {us : List Value} {vs : List V}
theorem run_makeG (M : Mk X.K C ff) (F0 : FnG X.prog X.w X.K X.mg X.base k ff true false F) (hr : Room (k + 1) X.A) (hg : X.A.guards = some []) (tk : L2N.Takes X W) (I : Inv X pins σ H s) (r : Vals vs us)
    (h : ∀ x dx, H x = none → H dx = none → dx ≠ x → spD X.K true false F (.ref x :: vs) (L2.upd (L2.upd H dx (.own x)) x (.ins C dx [])) (fun v H2 => v = .non ∧ Q (.ref x) H2) (WE W σ)) :
    wpAny (model X.prog X.w) X.A (call (.ref C) us) (EP X pins σ Q) X.xe s := by
  have hq := h (s.heap.objs.size + 1) s.heap.objs.size (I.hok.fresh (Nat.le_succ _)) (I.hok.fresh (Nat.le_refl _)) (Nat.ne_of_lt (Nat.lt_succ_self _))
  have I2 := Inv.made (C := C) I
  have r2 : Vals (V.ref (s.heap.objs.size + 1) :: vs) (Value.ref (s.heap.objs.size + 1) :: us) := .cons rfl r
  refine wpAny_call (make_map (f := ff) I.kIn M.makes M.init (beq_iff_eq.mp M.fn) (codeAny_mono (F0.run _ X.stack _ _ (Value.ref (s.heap.objs.size + 1) :: us) (V.ref (s.heap.objs.size + 1) :: vs) _ (WE W σ) (hr.make C us [])
    (make_guards hg) (I2.env0.make C us []) r2 hq) fun r s' hq' => ?_))
  cases r with
  | error e => exact L2N.passAt tk σ pins _ _ e s' I2 hq'
  | ok fl =>
    cases fl with
    | ret u =>
      obtain ⟨v, H', I3, rv, ev, q3⟩ := I2.after hq'
      subst ev
      exact ⟨rv, ⟨V.ref (s.heap.objs.size + 1), H', I3, rfl, q3⟩⟩
    | next => exact False.elim hq'
    | brk => exact False.elim hq'
    | cont => exact False.elim hq'
end
def mMake (c : Str) (F : FN) (args : MA) : ME := fun ρ => (args ρ).bind fun ds ρ1 => match F (.obj c [] :: ds) with
  | .rt .non o => .ok o ρ1
  | .ex x _ => .ex x ρ1
  | _ => .bad
def tMakeG (K : PySem.W.Frag) (C : Addr) (F : FN) (W : WX) (t : TA) : TE := fun σ H Q => t σ H fun vs H1 => ∀ x dx, H1 x = none → H1 dx = none → dx ≠ x →
  spD K true false F (.ref x :: vs) (L2.upd (L2.upd H1 dx (.own x)) x (.ins C dx [])) (fun v H2 => v = .non ∧ Q (.ref x) H2) (WE W σ)
section
variable {k : Nat} {ff C : Addr} {F : FN}
theorem pe_makeG {t : TA} (M : Mk X.K C ff) (F0 : FnG X.prog X.w X.K X.mg X.base k ff true false F) (hr : Room (k + 1) X.A) (hg : X.A.guards = some []) (tk : L2N.Takes X W) (hn : Gl X x) (hm : X.mg x = some (.ref C)) (ha : PA X (e :: es) t)
    (hdb : (x == ("__debug__" : Str)) = false := by decide) (he : starEach (e :: es) X.env = (false, eval e X.env) :: starEach es X.env := by rfl) (hpl : (backTo pos (starEach es X.env)).any (·.1) = false := by rfl) :
    PE X (.Call (.Name x p) (e :: es) [] pos) (tMakeG X.K C F W t) := by
  refine ⟨fun pins s σ H Q I h => wpAny_Call_Name_kw (ld_glob I hn hm ?_ hdb)⟩
  exact PySem.W.callWith_K (h₀ := X.base) I.ok.mod.kin M.kp (thn (ha.run pos pins s σ H _ I h) fun us s1 ⟨vs, H1, I1, r, q⟩ => ⟨I1.kIn, run_makeG M F0 hr hg tk I1 r q⟩) he hpl
theorem make_go {K : PySem.W.Frag} {σ : L2.St} {H : Hp} {Q : VK} (h : tF K G O W (mMake x F mr) σ H Q) : tMakeG K (He.ga K x) F W (tA K G O W mr) σ H Q := by
  obtain ⟨A, ms, ρ, R, q⟩ := h
  refine ⟨A, ms, ρ, R, RPost.mono (FPost.bind q) ?_⟩
  rintro vs H1 ⟨ds, ρ1, R1, k1, r1, q1⟩
  intro x0 dx hx0 hdx hne
  have s1 : Same H1 (L2.upd H1 dx (.own x0)) := same_upd hdx
  have hx1 : (L2.upd H1 dx (.own x0)) x0 = none := by rw [upd_ne (fun z => hne z.symm)]; exact hx0
  have s2 : Same H1 (L2.upd (L2.upd H1 dx (.own x0)) x0 (.ins (He.ga K x) dx [])) := fun b o e => same_upd hx1 _ _ (s1 _ _ e)
  have t2 : Tr A (fun a => A a ∨ a = x0) H1 (L2.upd (L2.upd H1 dx (.own x0)) x0 (.ins (He.ga K x) dx [])) := fun b o e n => ⟨s2 _ _ e, fun z => z.elim n fun z => by rw [z, hx0] at e; cases e⟩
  have R2 := R1.grow hx0 s2 (o := .ins (He.ga K x) dx []) upd_same
  refine ⟨fun a => A a ∨ a = x0, some x0, .obj x [] :: ds, R2.trk, rfl, ⟨vs, _, ds, rfl, rfl, .inr rfl, .obj upd_same .nil, r1.tr t2⟩, ?_⟩
  have fin : ∀ {H' : Hp}, KI (some x0) (L2.upd (L2.upd H1 dx (.own x0)) x0 (.ins (He.ga K x) dx [])) H' → Same H1 H' := fun {H'} ki b o e => ki b o (s2 _ _ e) fun z => by
    have z' := Option.some.inj z
    rw [← z', hx0] at e
    cases e
  cases hF : F (.obj x [] :: ds) with
  | bad => rw [hF] at q1; exact q1.elim
  | rt d o =>
    rw [hF] at q1
    cases d with
    | non =>
      intro v H' ki rr
      have rr' := (show Rp K (fun a => A a ∨ a = x0) H' v .non ∧ ∀ p, some x0 = some p → Own K (fun a => A a ∨ a = x0) H' p o from rr)
      have ow := rr'.2 x0 rfl
      obtain ⟨o', ho', nt'⟩ := ow.there'
      refine ⟨by cases rr'.1; rfl, ?_⟩
      have s := fin ki
      have q2 : FPost K G O W A ms σ H1 Q (.ok o ρ1) := q1
      exact q2 x0 H' (R1.same s) (R1.grow hx0 s ho' nt') (Kp.same s) hx0 ow
    | _ => exact q1.elim
  | ex y o =>
    rw [hF] at q1
    intro dx' H' ki oo xr
    have s := fin ki
    have q2 : FPost K G O W A ms σ H1 Q (.ex y ρ1) := q1
    refine q2 dx' H' (R1.same s) (Kp.same s) ?_
    rcases xr with z | ⟨ne, d, fs, e1, e2, rf⟩
    · exact .inl z
    · exact .inr ⟨ne, d, fs, e1, e2, rf.tr fun a o e n => ⟨e, fun z => n (.inl z)⟩⟩
theorem df_make {C : Str} (M : Mk X.K (He.ga X.K C) ff) (F0 : FnG X.prog X.w X.K X.mg X.base k ff true false F) (hr : Room (k + 1) X.A) (hg : X.A.guards = some []) (tk : L2N.Takes X W) (hn : Gl X C) (hm : X.mg C = some (.ref (He.ga X.K C))) (ha : DA X G O W (e :: es) mr)
    (hdb : (C == ("__debug__" : Str)) = false := by decide) (he : starEach (e :: es) X.env = (false, eval e X.env) :: starEach es X.env := by rfl) (hpl : (backTo pos (starEach es X.env)).any (·.1) = false := by rfl) :
    DF X G O W (.Call (.Name C p) (e :: es) [] pos) (mMake C F mr) := pe_imp (pe_makeG M F0 hr hg tk hn hm ha hdb he hpl) fun _ _ _ h => make_go h
end
def MethT (P : Program) (w : World) (K : PySem.W.Frag) (mg : Str → Option Value) (base : Heap) (k : Nat) (m : Str) (io fr : Bool) (tab : Str → Option FN) : Prop :=
  ∀ c F, tab c = some F → Cls K (He.ga K c) ∧ ∃ f, Meth K (He.ga K c) m f ∧ FnG P w K mg base k f io fr F
def mMeth (tab : Str → Option FN) (m : Str) (o : ME) (args : MA) : ME := fun ρ => (o ρ).bind fun d ρ1 => match d with
  | .obj c fs => match tab c with
    | some F => if (fs.lookup m).isNone = true then (args ρ1).bind fun ds ρ2 => match F (d :: ds) with
        | .rt z _ => .ok z ρ2
        | .ex x _ => .ex x ρ2
        | .bad => .bad
      else .bad
    | none => .bad
  | _ => .bad
def tMethG (K : PySem.W.Frag) (P : Program) (w : World) (mg : Str → Option Value) (base : Heap) (k : Nat) (m : Str) (io fr : Bool) (W : WX) (ta : TE) (t : TA) : TE := fun σ H Q => ta σ H fun x H1 => ∃ a C dx fs f F, x = .ref a ∧ H1 a = some (.ins C dx fs) ∧ fs.lookup m = none ∧ Cls K C ∧ Meth K C m f ∧ FnG P w K mg base k f io fr F ∧
  t σ H1 fun vs H2 => spD K io fr F (x :: vs) H2 Q (WE W σ)
section
variable {k : Nat} {io fr' : Bool} {ta : TE} {t : TA} {tab : Str → Option FN}
theorem pe_methG {pl : Sem Bool} (he : PE X o ta) (hr : Room k X.A) (hg : X.A.guards = some []) (tk : L2N.Takes X W) (ha : PA X (e :: es) t)
    (hst : starEach (e :: es) X.env = (false, eval e X.env) :: starEach es X.env := by rfl) (hpl : (backTo cpos (starEach es X.env)).any (·.1) = false := by rfl)
    (ht : eval (.Call (.Attribute o m apos) (e :: es) [] cpos) X.env = (do
      let ov ← eval o X.env
      standAt apos.atName
      let (f, first) ← holding [ov] (getMethod ov m pl)
      callWith cpos f first (backTo cpos (starEach (e :: es) X.env)) (backToKw cpos (keywordEach [] X.env))) := by rfl) :
    PE X (.Call (.Attribute o m apos) (e :: es) [] cpos) (tMethG X.K X.prog X.w X.mg X.base k m io fr' W ta t) := by
  refine ⟨fun pins s σ H Q I h => ?_⟩
  refine PySem.W.methodCall_KW (pl := pl) (thn (he.run pins s σ H _ I h) fun u s1 ⟨x, H1, I1, rx, a, C, dx, fs, f, F, ex, ea, l, c, hm, F0, q⟩ => ?_) ht
  subst ex
  obtain rfl : u = Value.ref a := rx
  refine getmeth_ok I1 ea c hm l ?_
  refine PySem.W.callWith_K (first := [.ref a]) (h₀ := X.base) I.ok.mod.kin hm.kp (thn (ha.run cpos pins s1 σ H1 _ I1 q) fun us s2 ⟨vs, H2, I2, r, q2⟩ => ⟨I2.kIn, ?_⟩) hst hpl
  exact run_fnG (us := .ref a :: us) (vs := .ref a :: vs) F0 hr hg tk I2 (.cons rfl r) q2
theorem pe_methG0 {pl : Sem Bool} (he : PE X o ta) (hr : Room k X.A) (hg : X.A.guards = some []) (tk : L2N.Takes X W)
    (ht : eval (.Call (.Attribute o m apos) [] [] cpos) X.env = (do
      let ov ← eval o X.env
      standAt apos.atName
      let (f, first) ← holding [ov] (getMethod ov m pl)
      callWith cpos f first (backTo cpos (starEach [] X.env)) (backToKw cpos (keywordEach [] X.env))) := by rfl) :
    PE X (.Call (.Attribute o m apos) [] [] cpos) (tMethG X.K X.prog X.w X.mg X.base k m io fr' W ta tNil) := by
  refine ⟨fun pins s σ H Q I h => ?_⟩
  refine PySem.W.methodCall_KW (pl := pl) (thn (he.run pins s σ H _ I h) fun u s1 ⟨x, H1, I1, rx, a, C, dx, fs, f, F, ex, ea, l, c, hm, F0, q⟩ => ?_) ht
  subst ex
  obtain rfl : u = Value.ref a := rx
  refine getmeth_ok I1 ea c hm l ?_
  exact PySem.W.callWith_K0 (first := [.ref a]) I1.kIn hm.kp (run_fnG (us := [.ref a]) (vs := [.ref a]) F0 hr hg tk I1 (.cons rfl .nil) q)
theorem meth_go {P : Program} {w : World} {mg : Str → Option Value} {base : Heap} {K : PySem.W.Frag} (T : MethT P w K mg base k m false false tab) {σ : L2.St} {H : Hp} {Q : VK} (h : tE K G O W (mMeth tab m mo mr) σ H Q) : tMethG K P w mg base k m false false W (tE K G O W mo) (tA K G O W mr) σ H Q := by
  obtain ⟨A, ms, ρ, R, q⟩ := h
  refine ⟨A, ms, ρ, R, q.bind.mono ?_⟩
  rintro x H1 ⟨d, ρ1, R1, k1, r1, q1⟩
  cases d with
  | obj c fs =>
    cases ht : tab c with
    | none => simp only [ht] at q1; exact q1.elim
    | some F =>
      simp only [ht] at q1
      split at q1
      · rename_i hz
        obtain ⟨cc, f, hm, F0⟩ := T c F ht
        have r1' := r1
        cases r1 with
        | obj ha na rf =>
          have hno := rf.lookN (f := m) (by cases hl : fs.lookup m with | none => rfl | some z => rw [hl] at hz; cases hz)
          refine ⟨_, _, _, _, f, F, rfl, ha, hno, cc, hm, F0, A, ms, ρ1, R1, RPost.mono (RPost.bind q1) ?_⟩
          rintro vs H2 ⟨ds, ρ2, R2', k2, r2, q2⟩
          refine ⟨A, none, .obj c fs :: ds, R2'.trk, rfl, .cons (r1'.tr (R1.kt k2)) r2, ?_⟩
          cases hF : F (.obj c fs :: ds) with
          | bad => simp only [hF] at q2; exact q2.elim
          | rt d o =>
            simp only [hF] at q2
            intro v H' ki ⟨rr, _⟩
            have s : Same H2 H' := fun a o e => ki a o e (by simp)
            exact q2 v H' (R2'.same s) (Kp.same s) rr
          | ex y o =>
            simp only [hF] at q2
            intro dx H' ki _ xr
            have s : Same H2 H' := fun a o e => ki a o e (by simp)
            exact q2 dx H' (R2'.same s) (Kp.same s) xr
      · exact q1.elim
  | _ => exact q1.elim
theorem de_meth {pl : Sem Bool} (T : MethT X.prog X.w X.K X.mg X.base k m false false tab) (hr : Room k X.A) (hg : X.A.guards = some []) (tk : L2N.Takes X W) (ho : DE X G O W o mo) (ha : DA X G O W (e :: es) mr)
    (hst : starEach (e :: es) X.env = (false, eval e X.env) :: starEach es X.env := by rfl) (hpl : (backTo cpos (starEach es X.env)).any (·.1) = false := by rfl)
    (ht : eval (.Call (.Attribute o m apos) (e :: es) [] cpos) X.env = (do
      let ov ← eval o X.env
      standAt apos.atName
      let (f, first) ← holding [ov] (getMethod ov m pl)
      callWith cpos f first (backTo cpos (starEach (e :: es) X.env)) (backToKw cpos (keywordEach [] X.env))) := by rfl) :
    DE X G O W (.Call (.Attribute o m apos) (e :: es) [] cpos) (mMeth tab m mo mr) := pe_imp (pe_methG ho hr hg tk ha hst hpl ht) fun _ _ _ h => meth_go T h
theorem tMethG_nil {K : PySem.W.Frag} {P : Program} {w : World} {mg : Str → Option Value} {base : Heap} {io fr' : Bool} {σ : L2.St} {H : Hp} {Q : VK} (h : tMethG K P w mg base k m io fr' W (tE K G O W mo) (tA K G O W mNil) σ H Q) : tMethG K P w mg base k m io fr' W (tE K G O W mo) tNil σ H Q := by
  obtain ⟨A, ms, ρ, R, q⟩ := h
  refine ⟨A, ms, ρ, R, q.mono ?_⟩
  rintro x H1 ⟨a, C, dx, fs, f, F, h1, h2, h3, h4, h5, h6, h7⟩
  exact ⟨a, C, dx, fs, f, F, h1, h2, h3, h4, h5, h6, tNil_go h7⟩
theorem de_meth0 {pl : Sem Bool} (T : MethT X.prog X.w X.K X.mg X.base k m false false tab) (hr : Room k X.A) (hg : X.A.guards = some []) (tk : L2N.Takes X W) (ho : DE X G O W o mo)
    (ht : eval (.Call (.Attribute o m apos) [] [] cpos) X.env = (do
      let ov ← eval o X.env
      standAt apos.atName
      let (f, first) ← holding [ov] (getMethod ov m pl)
      callWith cpos f first (backTo cpos (starEach [] X.env)) (backToKw cpos (keywordEach [] X.env))) := by rfl) :
    DE X G O W (.Call (.Attribute o m apos) [] [] cpos) (mMeth tab m mo mNil) := pe_imp (pe_methG0 ho hr hg tk ht) fun _ _ _ h => tMethG_nil (meth_go T h)
end
end
end DL
namespace DL
open L2 PySem PySem.Spec PyProof.Rows
theorem takesF {X : Cx} : L2N.Takes X W0 := fun u s' ⟨_, _, _, _, _, _, _, _, _, _, _, _, _, _, _, _, z⟩ => z.elim
section
variable {X : Cx} {G : Gd} {XC : List Nat → Prop} {Ol O O' O1 : List Nat} {W : WX} {fr : Bool} {a b c e o : Expr} {es : List Expr} {ma mb mc me mo : ME} {mr : MA} {pos p apos cpos : Pos} {x y f m : Str} {py : Pos} {cls : Str → Bool}
section
variable {k : Nat} {ff : Addr} {F : FN} {pins : List (Addr × Obj)} {σ : L2.St} {H : Hp} {s : Shared} {Q : VK} {us : List Value} {vs : List V} {A : Around}
theorem run_fnG' (C : FnG X.prog X.w X.K X.mg X.base k ff false false F) (hr : Room k A) (hg : A.guards = some []) (hfr : Env0 X.prog X.w X.K X.mg X.base A X.stack s H)
    (I : Inv X pins σ H s) (r : Vals vs us) (h : spD X.K false false F vs H Q (WE W0 σ)) : wpAny (model X.prog X.w) A (call (.ref ff) us) (EP X pins σ Q) X.xe s := by
  refine wpAny_call (codeAny_mono (C.run A X.stack s H us vs Q (WE W0 σ) hr hg hfr r h) fun res s' hres => ?_)
  cases res with
  | error e => exact L2N.passAt takesF σ pins H s e s' I hres
  | ok fl =>
    cases fl with
    | ret u => exact I.after hres
    | next => exact hres.elim
    | brk => exact hres.elim
    | cont => exact hres.elim
end
def rLenX (X : Cx) (k : Nat) : List V → Hp → VK → Prop := fun xs H Q => rDN X.K gLen xs H Q ∨
  ∃ a C dx fs f F, xs = [.ref a] ∧ H a = some (.ins C dx fs) ∧ Meth X.K C "__len__" f ∧ FnG X.prog X.w X.K X.mg X.base k f false false F ∧ Room (k + 1) X.A ∧ X.A.guards = some [] ∧
    spD X.K false false F [.ref a] H (fun v H' => ∃ n, v = .int n ∧ (0 ≤ n ∧ n < 2 ^ 63) ∧ Q v H') (fun _ _ _ => False)
theorem spD.mono {K : PySem.W.Frag} {io fr : Bool} {F : FN} {vs : List V} {H : Hp} {Q Q' : VK} {E E' : XK} (h : spD K io fr F vs H Q E) (w : ∀ v H', Q v H' → Q' v H') (w2 : ∀ c d H', E c d H' → E' c d H') : spD K io fr F vs H Q' E' := by
  obtain ⟨A, q, ds, t, hio, ar, post⟩ := h
  refine ⟨A, q, ds, t, hio, ar, ?_⟩
  cases hF : F ds with
  | bad => rw [hF] at post; exact post.elim
  | rt d o => rw [hF] at post; exact fun v H' ki rr => w _ _ (post v H' ki rr)
  | ex y o => rw [hF] at post; exact fun dx H' ki oo xr => w2 _ _ _ (post dx H' ki oo xr)
theorem call_lenX {k : Nat} : CallR X (.builtin "len") (rLenX X k) := by
  intro pins s σ H xs us Q I r h
  rcases h with h | ⟨a, C, dx, fs, f, F, rfl, ha, hm, F0, hr, hg, sp⟩
  · exact b_len pins s σ H xs us Q I r h
  · cases r with
    | cons r1 r2 =>
      cases r2
      rename_i u
      obtain rfl : u = Value.ref a := r1
      obtain ⟨m, hF⟩ := I.fr
      obtain ⟨mA, J, _⟩ := ins_get I.hok ha
      obtain ⟨od, J, _⟩ := J.look
      refine PySem.W.len_K hF I.ok.mod.kin J hm.at_ hm.fn ?_
      refine wpAny_mono (run_fnG' (us := [.ref a]) (vs := [.ref a]) F0 hr.in1 hg I.env0.in1 I (.cons rfl .nil) (sp.mono (fun _ _ z => z) fun _ _ _ z => z.elim)) (fun v s' hq => ?_) fun _ _ z => z
      obtain ⟨z, H', I', rz, n, rfl, hn, q⟩ := hq
      obtain ⟨t, rfl⟩ := (show ∃ t, v = Value.int n t from rz)
      exact ⟨hn, .int n, H', I'.tok _, ⟨_, rfl⟩, q⟩
def lenR (d : D) : Ret → Option D
  | .rt (.int n) _ => if 0 ≤ n ∧ n < 2 ^ 63 then some (.int n) else none
  | _ => none
def gLenX (tab : Str → Option FN) (d : D) : Option D := match d with
  | .obj c fs => (tab c).bind fun F => lenR d (F [d])
  | d => gLen [d]
theorem de_lenX {k : Nat} {tab : Str → Option FN} (T : MethT X.prog X.w X.K X.mg X.base k "__len__" false false tab) (hr : Room (k + 1) X.A) (hg : X.A.guards = some []) (hn : Gl X "len") (hm : X.mg "len" = none) (ha : DE X G O W e me)
    (he : starEach [e] X.env = (false, eval e X.env) :: starEach [] X.env := by rfl) (hpl : (backTo pos (starEach [] X.env)).any (·.1) = false := by rfl) : DE X G O W (.Call (.Name "len" p) [e] [] pos) (m1 (gLenX tab) me) := by
  refine pe_imp (pe_callB (call_lenX (k := k)) hn hm bt_len (pa_cons ha pa_nil he) (by decide) (by decide) he hpl) fun σ H Q ⟨A, ms, ρ, R, q⟩ => ?_
  refine ⟨A, ms, ρ, R, RPost.mono (RPost.bind q) ?_⟩
  rintro x H1 ⟨d, ρ1, R1, k1, r1, q1⟩
  obtain ⟨z, hz, q2⟩ := rp_of R1 q1
  have plain : (∀ c fs, d ≠ .obj c fs) → rLenX X k [x] H1 Q := fun hd => by
    refine .inl ⟨A, [d], z, R1.trk, .inl (.cons r1 .nil), ?_, q2⟩
    rw [← hz]
    cases d with
    | obj c fs => exact absurd rfl (hd c fs)
    | _ => rfl
  cases d with
  | obj c fs =>
    refine .inr ?_
    have hz' : (tab c).bind (fun F => lenR (.obj c fs) (F [.obj c fs])) = some z := hz
    cases ht : tab c with
    | none => rw [ht] at hz'; cases hz'
    | some F =>
      rw [ht] at hz'
      obtain ⟨cc, f, hme, F0⟩ := T c F ht
      have r1' := r1
      cases r1 with
      | obj ha' na rf =>
        refine ⟨_, _, _, _, f, F, rfl, ha', hme, F0, hr, hg, A, none, [.obj c fs], R1.trk, rfl, .cons r1' .nil, ?_⟩
        have hz2 : lenR (.obj c fs) (F [.obj c fs]) = some z := hz'
        cases hF : F [.obj c fs] with
        | bad => rw [hF] at hz2; cases hz2
        | ex y o => rw [hF] at hz2; cases hz2
        | rt v o =>
          rw [hF] at hz2
          cases v with
          | int n =>
            obtain ⟨hn', rfl⟩ := ite_d (x := .int n) hz2
            intro v H' ki ⟨rr, _⟩
            cases rr
            exact ⟨n, rfl, hn', q2 _ _ (fun a o e => ki a o e (by simp)) (.int n)⟩
          | _ => cases hz2
  | _ => exact plain fun _ _ => nofun
end
end DL
namespace DL
open L2 PySem PySem.Spec PyProof.Rows
inductive Sr where
  | l (a : Addr) | t (a : Addr) | s (x : Str)
namespace Sr
def v : Sr → V
  | .l a => .ref a
  | .t a => .ref a
  | .s x => .str x
def has (K : PySem.W.Frag) : Sr → List V → Hp → Prop
  | .l a, xs, H => SqL K H a xs
  | .t a, xs, H => SqT K H a xs
  | .s z, xs, _ => xs = z.cps.toList.map fun c => .str ⟨#[c]⟩
def st : Sr → Addr → Nat → Heap → Prop
  | .l a, it, i, h => h.IsListIter it a i
  | .t a, it, i, h => h.IsTupleIter it a i
  | .s z, it, i, h => ∃ t, h.IsStrIter it (strIterType z) z t i
def fp : Sr → Addr → List Addr
  | .l a, it => [it, a]
  | .t a, it => [it, a]
  | .s _, it => [it]
def ap : Sr → Addr → Prop
  | .l a, b => a ≠ b
  | .t a, b => a ≠ b
  | .s _, _ => True
end Sr
theorem Draws.tuple {prog : Program} {w : World} {A : Around} (hh : A.handled = none) (it l : Addr) (hne : l ≠ it) (items : Array Value) :
    Draws prog w A it [it, l] items.size (fun i v => items[i]? = some v) (fun i h => h.IsTupleIter it l i ∧ h.IsTuple l items) where
  live := fun _ _ st => let ⟨o, ho, _⟩ := st.1; ⟨o, ho⟩
  frame := fun _ _ _ st hk => ⟨st.1.at fun o e => hk it (by simp) o e, st.2.at fun o e => hk l (by simp) o e⟩
  item := fun i s Q E hi st hQ => by
    refine RZ.nextOf_tuple_item st.1 st.2 (x := items[i]) (by simp [hi]) fun h' hit' hs' => ?_
    exact hQ _ h' s.toks (by simp [hi]) ⟨hit', st.2.at fun o e => hs'.extBut _ _ hne e⟩ hs'
  done := fun s Q E st hE => RZ.nextOf_tuple_end hh st.1 st.2 (by simp) hE
theorem vals_getR : ∀ {xs : List V} {us : List Value} {i : Nat} {u : Value}, Vals xs us → us[i]? = some u → ∃ x, xs[i]? = some x ∧ RelV x u
  | _, _, _, _, .nil, e => by simp at e
  | _, _, 0, _, .cons r _, e => by simp at e; subst e; exact ⟨_, rfl, r⟩
  | _, _, i + 1, x, .cons _ t, e => by
    obtain ⟨v, h1, h2⟩ := vals_getR (i := i) t (by simpa using e)
    exact ⟨v, by simpa using h1, h2⟩
theorem Sr.draws {X : Cx} {A : Around} (hh : A.handled = none) {pins : List (Addr × Obj)} {σ : L2.St} {H : Hp} {s : Shared} (I : Inv X pins σ H s) (r : Sr) (it : Addr) (ap : r.ap it) {xs : List V} (hx : r.has X.K xs H) {i : Nat} (hs : r.st it i s.heap) :
    ∃ (P : Nat → Value → Prop) (St : Nat → Heap → Prop), Draws X.prog X.w A it (r.fp it) xs.length P St ∧ St i s.heap ∧ (∀ j v, P j v → ∃ x, xs[j]? = some x ∧ RelV x v) ∧ ∀ j h, St j h → r.st it j h := by
  cases r with
  | l a =>
    obtain ⟨its, rv, p, _⟩ := I.list hx
    have hl : xs.length = its.toArray.size := by rw [rv.length, List.size_toArray]
    refine ⟨fun i v => its.toArray[i]? = some v, fun i h => h.IsListIter it a i ∧ h.IsList a its.toArray, by rw [hl]; exact Draws.list hh it a ap its.toArray, ⟨hs, p.isList⟩, fun j v e => ?_, fun j h z => z.1⟩
    exact vals_getR rv (by simpa using e)
  | t a =>
    obtain ⟨its, rv, p, _⟩ := I.tuple hx
    have hl : xs.length = its.toArray.size := by rw [rv.length, List.size_toArray]
    refine ⟨fun i v => its.toArray[i]? = some v, fun i h => h.IsTupleIter it a i ∧ h.IsTuple a its.toArray, by rw [hl]; exact Draws.tuple hh it a ap its.toArray, ⟨hs, p⟩, fun j v e => ?_, fun j h z => z.1⟩
    exact vals_getR rv (by simpa using e)
  | s z =>
    obtain ⟨t, ht⟩ := hs
    have hx' : xs = z.cps.toList.map fun c => .str ⟨#[c]⟩ := hx
    have hl : xs.length = z.cps.size := by rw [hx', List.length_map, Array.length_toList]
    have key : ∀ (j : Nat) (v : Value), (∃ (c : Nat) (u : Tok), z.cps[j]? = some c ∧ v = Value.str ⟨#[c]⟩ u) → ∃ x, xs[j]? = some x ∧ RelV x v := by
      rintro j v ⟨c, u, e, hv⟩
      refine ⟨.str ⟨#[c]⟩, ?_, ?_⟩
      · rw [hx', List.getElem?_map, Array.getElem?_toList, e]; rfl
      · subst hv; exact ⟨u, rfl⟩
    cases ha : z.cps.all (· < 128)
    · have e : strIterType z = "str_iterator" := by simp [strIterType, ha]
      rw [e] at ht
      exact ⟨fun i v => ∃ c u, z.cps[i]? = some c ∧ v = .str ⟨#[c]⟩ u, fun i h => h.IsStrIter it "str_iterator" z t i, by rw [hl]; exact Draws.strWide hh it z t, ht, key, fun j h q => by show ∃ t, h.IsStrIter it (strIterType z) z t j; rw [e]; exact ⟨t, q⟩⟩
    · have e : strIterType z = "str_ascii_iterator" := by simp [strIterType, ha]
      rw [e] at ht
      exact ⟨fun i v => ∃ c u, z.cps[i]? = some c ∧ v = .str ⟨#[c]⟩ u, fun i h => h.IsStrIter it "str_ascii_iterator" z t i, by rw [hl]; exact Draws.strAscii hh it z t, ht, key, fun j h q => by show ∃ t, h.IsStrIter it (strIterType z) z t j; rw [e]; exact ⟨t, q⟩⟩
theorem Sr.mem (r : Sr) (it : Addr) : it ∈ r.fp it := by cases r <;> simp [Sr.fp]
theorem Sr.nfp (r : Sr) {it b : Addr} (h : it ≠ b) (a : r.ap b) : b ∉ r.fp it := by
  cases r with
  | l c => simp only [Sr.fp, List.mem_cons, List.mem_nil_iff, or_false, not_or]; exact ⟨h.symm, fun z => a z.symm⟩
  | t c => simp only [Sr.fp, List.mem_cons, List.mem_nil_iff, or_false, not_or]; exact ⟨h.symm, fun z => a z.symm⟩
  | s c => simp only [Sr.fp, List.mem_cons, List.mem_nil_iff, or_false]; exact h.symm
theorem Sr.stk (r : Sr) {it : Addr} {i : Nat} {h h' : Heap} (s : r.st it i h) (k : ∀ o, h.get? it = some o → h'.get? it = some o) : r.st it i h' := by
  cases r with
  | l a => exact Heap.IsListIter.at s k
  | t a => exact Heap.IsTupleIter.at s k
  | s z =>
    obtain ⟨t, o, ho, q⟩ := s
    exact ⟨t, o, k o ho, q⟩
theorem Sr.sto (r : Sr) {it : Addr} {i : Nat} {h : Heap} (s : r.st it i h) : ∃ o, h.get? it = some o ∧ ∀ v, o.data ≠ .cell v := by
  cases r with
  | l a => obtain ⟨o, ho, _, d⟩ := s; exact ⟨o, ho, fun v q => by rw [d] at q; cases q⟩
  | t a => obtain ⟨o, ho, _, d⟩ := s; exact ⟨o, ho, fun v q => by rw [d] at q; cases q⟩
  | s z => obtain ⟨t, o, ho, _, d⟩ := s; exact ⟨o, ho, fun v q => by rw [d] at q; cases q⟩
theorem Sr.inj {X : Cx} {pins : List (Addr × Obj)} {σ : L2.St} {H : Hp} {s : Shared} (I : Inv X pins σ H s) (r : Sr) {xs ys : List V} (h : r.has X.K xs H) (h' : r.has X.K ys H) : xs = ys := by
  cases r with
  | l a => exact I.list_inj h h'
  | t a => exact I.tuple_inj h h'
  | s z => exact h.trans h'.symm
end DL
namespace DL
open L2 PySem PySem.Spec PyProof.Rows
def IterO (u : Value) (o : Obj) (h : Heap) : Prop := ∀ (h' : Heap), (∀ c x, h.get? c = some x → h'.get? c = some x) → ∀ (prog : Program) (w : World) (A : Around) (g : Array GenState) (d : Drawn) (tk : Nat) (os : OsState) (Q : Value → Shared → Prop) (E : Value → Shared → Prop),
  Q (.ref h'.objs.size) ⟨h'.push o, g, d, tk, os⟩ → wpAny (model prog w) A (pyIter u) Q E ⟨h', g, d, tk, os⟩
theorem Sr.iter {X : Cx} {pins : List (Addr × Obj)} {σ : L2.St} {H : Hp} {s : Shared} (I : Inv X pins σ H s) (r : Sr) {xs : List V} (hx : r.has X.K xs H) {u : Value} (ru : RelV r.v u) :
    ∃ o, o.isFreed = false ∧ IterO u o s.heap ∧ (∀ it h, h.get? it = some o → r.st it 0 h) ∧ ∀ b, s.heap.objs.size ≤ b → r.ap b := by
  cases r with
  | l a =>
    obtain rfl : u = Value.ref a := ru
    obtain ⟨its, rv, p, _⟩ := I.list hx
    exact ⟨{ cls := .type "list_iterator", data := .fields #[.ref a, .int 0 0] }, rfl, fun h' k prog w A g d tk os Q E q => wpAny_pyIter_list (items := its.toArray) (p.isList.at fun o e => k _ _ e) q, fun it h e => ⟨_, e, rfl, rfl⟩, fun b hb z => by subst z; exact Nat.lt_irrefl _ (Nat.lt_of_lt_of_le p.lt hb)⟩
  | t a =>
    obtain rfl : u = Value.ref a := ru
    obtain ⟨its, rv, p, _⟩ := I.tuple hx
    refine ⟨{ cls := .type "tuple_iterator", data := .fields #[.ref a, .int 0 0] }, rfl, fun h' k prog w A g d tk os Q E q => wpAny_pyIter_tuple (items := its.toArray) (let ⟨o, ho, r⟩ := p; ⟨o, k _ _ ho, r⟩) q, fun it h e => ⟨_, e, rfl, rfl⟩, fun b hb z => ?_⟩
    obtain ⟨o, ho, _⟩ := (show s.heap.IsTuple a its.toArray from p)
    subst z
    exact Nat.lt_irrefl _ (Nat.lt_of_lt_of_le (Heap.lt_size ho) hb)
  | s z =>
    obtain ⟨t, rfl⟩ := (show ∃ t, u = Value.str z t from ru)
    exact ⟨{ cls := .type (strIterType z), data := .fields #[.str z t, .int 0 0] }, rfl, fun h' k prog w A g d tk os Q E q => wpAny_pyIter_strU q, fun it h e => ⟨t, _, e, rfl, rfl⟩, fun b hb => trivial⟩
theorem sr_of {K : PySem.W.Frag} {A : Addr → Prop} {H : Hp} {v : V} {d : D} {l : List D} (h : Rp K A H v d) (e : gIter d = some l) :
    ∃ (r : Sr) (xs : List V), v = r.v ∧ RpA K A H xs l ∧ ∀ A' H', Tr A A' H H' → r.has K xs H' := by
  cases h with
  | lst h1 n1 rr => cases e; exact ⟨.l _, _, rfl, rr, fun A' H' t => SqL.of (t _ _ h1 n1).1⟩
  | scr h1 rr => cases e; exact ⟨.l _, _, rfl, rr, fun A' H' t => (h1.tr t).sq⟩
  | tup h1 rr => cases e; exact ⟨.t _, _, rfl, rr, fun A' H' t => (h1.tr t).sq⟩
  | str z =>
    cases e
    refine ⟨.s z, _, rfl, ?_, fun A' H' t => rfl⟩
    unfold chars
    generalize z.cps.toList = cs
    induction cs with
    | nil => exact .nil
    | cons c cs ih => exact .cons (.str _) ih
  | _ => cases e
end DL
namespace DL
open L2 PySem PySem.Spec PyProof.Rows
def cbody : Stmt → List Stmt
  | .ClassDef _ _ _ b _ _ _ _ _ _ _ => b
  | _ => []
def IteS (K : PySem.W.Frag) (a : Sr) : It :=
  ⟨fun i H => ∃ (xs : List V) (x : V), a.has K xs H ∧ xs[i]? = some x,
    fun i H v H' => ∃ T x, v = .ref T ∧ H T = none ∧ H' = L2.upd H T (.tup [.int (i : Nat), x]) ∧ (∀ xs, a.has K xs H → xs[i]? = some x),
    fun i H => ∃ xs : List V, a.has K xs H ∧ i = xs.length⟩
theorem turn_enumS {P : Program} {w : World} {K : PySem.W.Frag} {elts : List Expr} {kk : Nat} {tpos : Pos} (a : Sr) (e it : Addr) (hne : e ≠ it) (ae : a.ap e) (ai : a.ap it) :
    Turn P w K (.Tuple elts kk tpos) (IteS K a) [e, it] e (fun i h => (∃ old, IsEnum h e it ((i : Nat) : Int) old) ∧ a.st it i h) where
  mem := by simp
  obj := fun i h st b hb => by
    obtain ⟨⟨old, he⟩, si⟩ := st
    have e' : b = e ∨ b = it := by simpa using hb
    rcases e' with z | z
    · rw [z]; exact ⟨_, he, fun v q => nomatch q⟩
    · rw [z]; exact a.sto si
  keep := fun i h h' st k => let ⟨⟨old, he⟩, hi⟩ := st; ⟨⟨old, k e (by simp) _ he⟩, a.stk hi fun o q => k it (by simp) o q⟩
  item := by
    intro X hP hw hK hc i pins s σ H E I hf st hg
    subst hP hw hK
    obtain ⟨⟨old, he⟩, hit⟩ := st
    obtain ⟨xs, x, hq, hx⟩ := hg
    have hel : e < s.heap.objs.size := Heap.lt_size he
    have hil : it < s.heap.objs.size := by obtain ⟨_, q, _⟩ := a.sto hit; exact Heap.lt_size q
    obtain ⟨P1, St1, D1, t1, p1, f1⟩ := Sr.draws (A := X.A.in1) (I.ok.hd hc) I a it ai hq hit
    refine wpAny_pyNext_enum_itemD D1 he t1 (List.getElem?_eq_some_iff.mp hx).1 hne (a.nfp hne.symm ae) fun u h' tk q1 ho hit' hT hsz hk => ?_
    obtain ⟨x', ex, ru⟩ := p1 _ _ q1
    rw [hx] at ex
    cases ex
    refine ⟨_, rfl, wpAny_letOwnedTupleGo_enum (s := { s with heap := h', toks := tk + 1 }) ho fun h'' he' sb => ?_⟩
    have hT2 : h''.get? s.heap.objs.size = some { cls := .type "tuple", data := .seq #[.int i tk, u] } := (sb.2 _ (Nat.ne_of_gt hel)).trans hT
    have new : ObjOk X.prog X.w (L2.upd H s.heap.objs.size (.tup [.int (i : Nat), x])) h'' s.heap.objs.size (.tup [.int (i : Nat), x]) :=
      ⟨by show 2 ≤ sizeLine; decide, [.int i tk, u], .cons ⟨_, rfl⟩ (.cons ru .nil), ⟨_, hT2, rfl, _, rfl⟩⟩
    have I1 : Inv X pins σ (L2.upd H s.heap.objs.size (.tup [.int (i : Nat), x])) { s with heap := h'', toks := tk + 1 } :=
      I.turnedNew (ch := [e, it]) (fun b ob hb q => (sb.2 b (fun z => hb (by simp [z]))).trans (hk b ob (fun z => hb (by simp [z])) (fun z => hb (by simp [z])) q)) hf (Nat.le_refl _) new
    refine ⟨.ref s.heap.objs.size, _, I1, rfl, ⟨_, x, rfl, I.hok.fresh (Nat.le_refl _), rfl, fun ys hy => by rw [a.inj I hy hq]; exact hx⟩, ⟨⟨u, ?_⟩, a.stk (f1 _ _ hit') fun o q => (sb.2 it (Ne.symm hne)).trans q⟩, fun b hb => ?_⟩
    · have e1 : ((i + 1 : Nat) : Int) = (i : Int) + 1 := by omega
      rw [e1]; exact he'
    · have hb' : b < s.heap.objs.size := by
        have e' : b = e ∨ b = it := by simpa using hb
        rcases e' with z | z
        · rw [z]; exact hel
        · rw [z]; exact hil
      rw [upd_ne (Nat.ne_of_lt hb')]
      exact (hf b hb).1
  done := by
    intro X hP hw hK hc i pins s σ H E I hf st hg
    subst hP hw hK
    obtain ⟨⟨old, he⟩, hit⟩ := st
    obtain ⟨xs, hq, rfl⟩ := hg
    obtain ⟨P1, St1, D1, t1, p1, f1⟩ := Sr.draws (A := X.A.in1) (I.ok.hd hc) I a it ai hq hit
    obtain ⟨f0, f1, f2, f3, f4, f5⟩ := hf it (by simp)
    exact wpAny_pyNext_enum_endD D1 he t1 fun h' eb => ⟨rfl, I.turned (t' := s.toks) (fun b o hb q => eb b o hb q) f0 f1 f3 f4 f5⟩
  self := fun A i s Q E st h => let ⟨⟨_, he⟩, _⟩ := st; wpAny_pyIter_enum he h
theorem meets_enumS_new (u : Value) (o : Obj) :
    Meets (Builtin.«enumerate.__new__» ⟨[.type "enumerate", u], []⟩) (fun _ R s => IterO u o s.heap ∧
      R (.ok (.ret (.ref (s.heap.push o).objs.size))) { s with heap := (s.heap.push o).push { cls := .type "enumerate", data := .fields #[.none, .bool false, .ref s.heap.objs.size, rawInt 0, .none, .none] } }) :=
  .of_wp fun prog w A R s h => by
    obtain ⟨hp, g, d, tk, os⟩ := s
    obtain ⟨h1, h⟩ := h
    have hsub := sub_enumerate
    have i1 := @h1 hp (fun _ _ x => x)
    wp_walk
    refine wpAny_stack_any fun st => wpAny_pure ?_
    split
    · rename_i c _ _ _ _ _
      cases (c == Value.type "enumerate")
      · wp_walk using i1 prog w _ _ _ _ _
        exact ⟨_, rfl, h⟩
      · wp_walk using i1 prog w _ _ _ _ _
        exact ⟨_, rfl, h⟩
    · wp_walk using i1 prog w _ _ _ _ _
      exact ⟨_, rfl, h⟩
theorem call_enumS {prog : Program} {w : World} {A : Around} {E : Value → Shared → Prop} {s : Shared} {u : Value} {o : Obj} {Q : Value → Shared → Prop} (hL : IterO u o s.heap) (fo : o.isFreed = false)
    (h : ∀ h', IsEnum h' (s.heap.objs.size + 1) s.heap.objs.size 0 .none → h'.get? s.heap.objs.size = some o → h'.objs.size = s.heap.objs.size + 2 →
      (∀ b o, s.heap.get? b = some o → h'.get? b = some o) → Q (.ref (s.heap.objs.size + 1)) { s with heap := h' }) :
    wpAny (model prog w) A (call (.type "enumerate") [u]) Q E s := by
  refine callType_new F.called_enumerate (by decide) (F.typeCall_enumerate_1 _) (F.newCall_enumerate_1 _) (fun obj => F.args_object_init_2 obj _) F.entry_enumerate_new
    (meets_enumS_new u o) ⟨hL, ?_⟩
  have hz : (s.heap.push o).objs.size = s.heap.objs.size + 1 := Heap.size_push ..
  show _ ∧ _
  rw [hz]
  have he : IsEnum ((s.heap.push o).push { cls := .type "enumerate", data := .fields #[.none, .bool false, .ref s.heap.objs.size, rawInt 0, .none, .none] }) (s.heap.objs.size + 1) s.heap.objs.size 0 .none := by
    have := Heap.get?_push_size (s.heap.push o) (o := { cls := .type "enumerate", data := .fields #[.none, .bool false, .ref s.heap.objs.size, rawInt 0, .none, .none] }) rfl
    rw [hz] at this; exact this
  exact ⟨⟨_, he, rfl⟩, h _ he (Heap.get?_push_of_some _ (Heap.get?_push_size _ fo)) (by rw [Heap.size_push, hz]) fun b o x => Heap.get?_push_of_some _ (Heap.get?_push_of_some _ x)⟩
def iEnumS (K : PySem.W.Frag) (ta : TA) : TI := fun σ H R => ta σ H fun vs H1 => ∃ a xs, vs = [Sr.v a] ∧ a.has K xs H1 ∧ R (IteS K a) H1
theorem pi_enumS {X : Cx} {e : Expr} {ta : TA} {p pos tpos : Pos} {elts : List Expr} {kk : Nat} (hg : Gl X "enumerate") (hm : X.mg "enumerate" = none) (ha : PA X [e] ta) (hs : starEach [e] X.env = [(false, eval e X.env)] := by rfl) :
    PI X (.Tuple elts kk tpos) (.Call (.Name "enumerate" p) [e] [] pos) (iEnumS X.K ta) := by
  refine ⟨fun pins s σ H R I h => ?_⟩
  refine Call_ (ld_blt I hg hm boot_enumerate (PyProof.Rows.callWith_type1 (thn (ha.run pos pins s σ H _ I h) fun us s1 ⟨vs, H1, I1, r1, q1⟩ => ?_) hs rfl))
  obtain ⟨a, xs, ex, hq, q⟩ := q1
  subst ex
  cases r1 with
  | cons r rr =>
    cases rr
    obtain ⟨o1, fr1, it1, st1, ap1⟩ := Sr.iter I1 a hq r
    refine call_enumS it1 fr1 fun h' he hit hsz hk => wpAny_pyIter_enum he ?_
    have I2 : Inv X pins σ H1 { s1 with heap := h' } := I1.kept (t' := s1.toks) hk
    refine ⟨s1.heap.objs.size + 1, [s1.heap.objs.size + 1, s1.heap.objs.size], _, _, H1, rfl, I2, turn_enumS a (s1.heap.objs.size + 1) s1.heap.objs.size (Nat.succ_ne_self _) (ap1 _ (Nat.le_add_right _ _)) (ap1 _ (Nat.le_refl _)), ⟨⟨.none, he⟩, st1 _ _ hit⟩, fun b hb => ?_, q⟩
    have e' : b = s1.heap.objs.size + 1 ∨ b = s1.heap.objs.size := by simpa using hb
    have hle : s1.heap.objs.size ≤ b := by
      rcases e' with z | z
      · rw [z]; exact Nat.le_add_right _ _
      · rw [z]; exact Nat.le_refl _
    exact I1.fpOk hle (I1.hok.fresh hle)
def gEnumS : List D → Option (List D)
  | [d] => (gIter d).map enumL
  | _ => none
section
variable {X : Cx} {G : Gd} {XC : List Nat → Prop} {Ol O O' O1 : List Nat} {W : WX} {fr : Bool} {a b c e o : Expr} {es : List Expr} {ma mb mc me mo : ME} {mr : MA} {pos p apos cpos : Pos} {x y f m : Str} {py : Pos} {tg : Expr} {tpos : Pos} {elts : List Expr} {kk : Nat}
theorem di_enumS (hg : Gl X "enumerate") (hm : X.mg "enumerate" = none) (ha : DA X G O W [e] mr) (hs : starEach [e] X.env = [(false, eval e X.env)] := by rfl) : DI X G O W (.Tuple elts kk tpos) (.Call (.Name "enumerate" p) [e] [] pos) (mItN gEnumS mr) := by
  refine pi_imp (pi_enumS hg hm ha hs) fun σ H Q h => itn_go (fun _ _ _ z => z) h fun A vs ds l H1 tk r hl q => ?_
  unfold gEnumS at hl
  split at hl
  · rename_i d1
    obtain ⟨zs, hz, rfl⟩ := map_some hl
    cases r with
    | cons r r' =>
      cases r'
      obtain ⟨r1, xs, rfl, rx, hx⟩ := sr_of r hz
      refine ⟨r1, xs, rfl, hx _ _ Tr.refl, q _ fun A' H' t tk' => ?_⟩
      have sx := hx _ _ t
      have hlen := rx.length
      have el : (enumL zs).length = zs.length := by unfold enumL; rw [List.length_map, List.length_zipIdx]
      refine ⟨fun i d e => ?_, ⟨xs, sx, by omega⟩⟩
      have hi := (List.getElem?_eq_some_iff.mp e).1
      rw [el] at hi
      have e2 : d = .tup [.int (i : Nat), zs[i]] := by
        unfold enumL at e
        rw [List.getElem?_map, List.getElem?_zipIdx, List.getElem?_eq_getElem hi] at e
        have := Option.some.inj e
        rw [← this]
        simp
      obtain ⟨v, ev, rv⟩ := rx.get (List.getElem?_eq_getElem hi)
      refine ⟨⟨xs, v, sx, ev⟩, ?_⟩
      rintro x H'' ⟨T, y, rfl, hT, rfl, hy⟩
      have := hy xs sx
      rw [ev] at this
      cases this
      rw [e2]
      exact ⟨same_upd hT, new_tup tk' (.cons (.int _) (.cons (rv.tr t) .nil)) hT⟩
  · cases hl
end
end DL
namespace DL
open L2 PySem PySem.Spec PyProof.Rows
def isC (cs : List Str) (c : Str) : Bool := cs.any fun x => decide (c = x)
def tb : List (Str × FN) → Str → Option FN
  | [], _ => none
  | (y, F) :: r, x => if x = y then some F else tb r x
section
variable {P : Program} {w : World} {K : PySem.W.Frag} {mg : Str → Option Value} {base : Heap} {k : Nat} {m f c x : Str} {fr : Bool} {cs : List Str} {F : FN} {l : List (Str × FN)} {T : String}
theorem isC_or {c x : Str} {cs : List Str} (h : isC (x :: cs) c = true) : c = x ∨ isC cs c = true := by
  unfold isC at *
  rw [List.any_cons, Bool.or_eq_true] at h
  exact h.imp (fun z => of_decide_eq_true z) id
theorem fldC_nil : FldC K (isC []) f := fun c h => by cases h
theorem fldC_cons (h1 : Cls K (He.ga K x)) (h2 : NoAttr K (He.ga K x) f) (h : FldC K (isC cs) f) : FldC K (isC (x :: cs)) f := fun c hc => by
  rcases isC_or hc with rfl | z
  · exact ⟨h1, h2⟩
  · exact h c z
theorem methT_nil : MethT P w K mg base k m false fr (tb []) := fun c F h => by cases h
theorem methT_cons {g : Addr} (h1 : Cls K (He.ga K x)) (h2 : Meth K (He.ga K x) m g) (h3 : FnG P w K mg base k g false fr F) (h : MethT P w K mg base k m false fr (tb l)) : MethT P w K mg base k m false fr (tb ((x, F) :: l)) := fun c F' hc => by
  have hc' : (if c = x then some F else tb l c) = some F' := hc
  split at hc'
  · rename_i z
    subst z
    cases hc'
    exact ⟨h1, g, h2, h3⟩
  · exact h c F' hc'
end
end DL
namespace DL
open L2 PySem PySem.Spec PyProof.Rows
end DL
namespace DL
open L2 PySem PySem.Spec PyProof.Rows
def IsZipF (h : Heap) (z TI TO T : Addr) (f : Bool) : Prop := h.get? z = some { cls := .type "zip", data := .fields #[rawInt T, .bool f, .bool false, .ref TI, .ref TO] }
end DL
namespace DL
open L2 PySem PySem.Spec PyProof.Rows
end DL
namespace DL
open L2 PySem PySem.Spec PyProof.Rows
section
variable {prog : Program} {w : World} {A : Around} {E : Value → Shared → Prop} {s : Shared} {z TI TO T i1 i2 : Addr} {fp1 fp2 : List Addr} {n1 n2 i : Nat} {P1 P2 : Nat → Value → Prop} {St1 St2 : Nat → Heap → Prop} {a1 a2 : Value} {f : Bool} {oT : Obj}
def Zs (z TI TO b0 : Addr) (h : Heap) : Prop := (IsZip h z TI TO .none ∧ ∃ a b, IsTupOf2 h TO a b) ∨ ∃ T f o, IsZipF h z TI TO T f ∧ b0 ≤ T ∧ h.get? T = some o
theorem Zs.keep {b0 : Addr} {h h' : Heap} (hz : Zs z TI TO b0 h) (k : ∀ c o, c = z ∨ c = TO ∨ b0 ≤ c → h.get? c = some o → h'.get? c = some o) : Zs z TI TO b0 h' := by
  rcases hz with ⟨a, x, y, b⟩ | ⟨T, f, o, a, b, c⟩
  · exact .inl ⟨k _ _ (.inl rfl) a, x, y, k _ _ (.inr (.inl rfl)) b⟩
  · exact .inr ⟨T, f, o, k _ _ (.inl rfl) a, b, k _ _ (.inr (.inr b)) c⟩
def AccZ (b0 : Addr) (P1 P2 : Nat → Value → Prop) (h : Heap) (acc : Array Value) (i : Nat) : Prop :=
  ∃ Ts : List Addr, Ts.length = i ∧ acc = (Ts.map Value.ref).toArray ∧ Ts.Pairwise (· < ·) ∧ ∀ (j : Nat) (T : Addr), Ts[j]? = some T → b0 ≤ T ∧ ∃ x y, IsTupOf2 h T x y ∧ P1 j x ∧ P2 j y
theorem AccZ.size {b0 : Addr} {h : Heap} {acc : Array Value} (a : AccZ b0 P1 P2 h acc i) : acc.size = i := by
  obtain ⟨Ts, e1, e2, _⟩ := a
  rw [e2, List.size_toArray, List.length_map, e1]
theorem AccZ.keep {b0 : Addr} {h h' : Heap} {acc : Array Value} (a : AccZ b0 P1 P2 h acc i) (k : ∀ c o, b0 ≤ c → h.get? c = some o → h'.get? c = some o) : AccZ b0 P1 P2 h' acc i :=
  let ⟨Ts, e1, e2, e3, e4⟩ := a
  ⟨Ts, e1, e2, e3, fun j T e => let ⟨b, x, y, t, p, q⟩ := e4 j T e; ⟨b, x, y, k _ _ b t, p, q⟩⟩
theorem AccZ.push {b0 : Addr} {h : Heap} {acc : Array Value} {x y : Value} {T : Addr} (a : AccZ b0 P1 P2 h acc i) (hT : b0 ≤ T) (ht : IsTupOf2 h T x y) (hx : P1 i x) (hy : P2 i y) (hlt : ∀ (c : Addr) (o : Obj), acc.toList.contains (.ref c) = true → c < T) : AccZ b0 P1 P2 h (acc.push (.ref T)) (i + 1) := by
  obtain ⟨Ts, e1, e2, e3, e4⟩ := a
  refine ⟨Ts ++ [T], by rw [List.length_append, e1]; rfl, by rw [e2]; simp, ?_, fun j U hj => ?_⟩
  · rw [List.pairwise_append]
    refine ⟨e3, List.pairwise_singleton _ _, fun c hc d hd => ?_⟩
    rw [List.mem_singleton.mp hd]
    refine hlt c { cls := .none, data := .seq #[] } ?_
    rw [e2]
    simp [List.contains_iff_mem, hc]
  · by_cases l : j < Ts.length
    · rw [List.getElem?_append_left l] at hj
      exact e4 j U hj
    · rw [List.getElem?_append_right (by omega)] at hj
      have hj0 : j - Ts.length = 0 := by
        have := (List.getElem?_eq_some_iff.mp hj).1
        simp at this
        omega
      rw [hj0] at hj
      cases hj
      have : j = i := by omega
      subst this
      exact ⟨hT, x, y, ht, hx, hy⟩
theorem AccZ.lt {b0 : Addr} {h : Heap} {acc : Array Value} (a : AccZ b0 P1 P2 h acc i) {c : Addr} (hc : acc.toList.contains (.ref c) = true) : c < h.objs.size := by
  obtain ⟨Ts, e1, e2, e3, e4⟩ := a
  rw [e2] at hc
  have hm : c ∈ Ts := by simpa [List.contains_iff_mem] using hc
  obtain ⟨j, hj⟩ := List.getElem?_of_mem hm
  obtain ⟨_, x, y, t, _⟩ := e4 j c hj
  exact Heap.lt_size t
theorem Zs.type {b0 : Addr} {h : Heap} (hz : Zs z TI TO b0 h) : ∃ o, h.get? z = some o ∧ o.cls = .type "zip" := by
  rcases hz with ⟨a, _⟩ | ⟨T, f, o, a, _⟩
  · exact ⟨_, a, rfl⟩
  · exact ⟨_, a, rfl⟩
end
end DL
namespace DL
open L2 PySem PySem.Spec PyProof.Rows
end DL
namespace DL
open L2 PySem PySem.Spec PyProof.Rows
end DL
namespace DL
open L2 PySem PySem.Spec PyProof.Rows
end DL
namespace DL
open L2 PySem PySem.Spec PyProof.Rows
end DL
namespace DL
open L2 PySem PySem.Spec PyProof.Rows
end DL
namespace DL
open HotX L2 PySem PySem.Spec PyProof.Rows
end DL
namespace DL
open L2 PySem PySem.Spec PyProof.Rows
end DL
namespace DL
open L2 PySem PySem.Spec PyProof.Rows
end DL
namespace DL
open L2 PySem PySem.Spec PyProof.Rows
end DL
namespace DL
open L2 PySem PySem.Spec PyProof.Rows
end DL
namespace DL
open L2 PySem PySem.Spec PyProof.Rows
section
variable {X : Cx} {G : Gd} {O : List Nat} {W : WX}
theorem RelS.grew {K : PySem.W.Frag} {A : Addr → Prop} {ms : Nat → Option Addr} {σ : L2.St} {H : Hp} {ρ : En} {L : Addr} {o : HO} (R : RelS K G O (fun a => A a ∨ a = L) ms σ H ρ) (nL : ∀ i ∈ O, ms i ≠ some L) (hk : ∀ o, G.H0 L = some o → G.io ≠ some L → False) (nt : NT o := by intro _ z; cases z) :
    RelS K G O (fun a => A a ∨ a = L) ms σ (upd H L o) ρ := by
  have tr7 : Tr (fun a => A a ∨ a = L) (fun a => A a ∨ a = L) H (upd H L o) := fun a u e n => ⟨upd_out a u e fun z => n (.inr z), n⟩
  exact {
    sub := R.sub
    trk0 := R.trk0
    trk := fun a z => by
      by_cases h : a = L
      · rw [h]; exact ⟨_, upd_same, nt⟩
      · obtain ⟨u, e, n⟩ := R.trk a z
        exact ⟨u, upd_out a u e h, n⟩
    keep := fun a u e n => upd_out a u (R.keep a u e n) fun z => by
      subst z
      exact hk u e n
    len := R.len
    fz := fun j d e n => let ⟨v, e1, q⟩ := R.fz j d e n; ⟨v, e1, q.tr tr7⟩
    ow := fun j d e n => let ⟨p, e0, e1, q⟩ := R.ow j d e n; ⟨p, e0, e1, q.tr tr7 fun u z => upd_out _ _ z fun h => nL j n (h ▸ e0)⟩
    inA := R.inA
    ok := R.ok
    dist := R.dist
    px := R.px
    io := R.io }
variable {XC : List Nat → Prop} {Ol O' : List Nat} {fr : Bool} {y : Str} {i : Nat} {py spos : Pos} {elt tg iter tg1 iter1 : Expr} {ifs ifs1 : List Expr} {scope : Scope} {own : List (Str × Nat)} {vs1 : List Nat} {pos : Pos} {mi mi1 : En → R (List D)} {g g1 : MG} {mt mt1 : MT} {me : ME}
end
end DL
namespace DL
open L2 PySem PySem.Spec PyProof.Rows
mutual
def relD (K : PySem.W.Frag) : Value → D → Bool
  | .none, .non => true
  | .bool b, .bl c => decide (b = c)
  | .int i _, .int j => decide (i = j)
  | .str x _, .str y => decide (x = y)
  | .ref a, .tup ds => match K.lookup a with
    | some ⟨.type c, _, .seq its _, _⟩ => decide (c = "tuple") && (decide (its.size ≤ sizeLine) && relDs K its.toList ds)
    | _ => false
  | .ref a, .scr ds => match K.lookup a with
    | some ⟨.type c, none, .seq its _, _⟩ => decide (c = "list") && (decide (its.size ≤ sizeLine) && relDs K its.toList ds)
    | _ => false
  | _, _ => false
def relDs (K : PySem.W.Frag) : List Value → List D → Bool
  | [], [] => true
  | u :: us, d :: ds => relD K u d && relDs K us ds
  | _, _ => false
end
abbrev Tb := List (Str × D)
def tabB (K : PySem.W.Frag) (x : Str) (t : Tb) : Bool := t.all fun q => match PySem.W.nsIn K (He.ga K x) q.1 with
  | some (some u) => relD K u q.2
  | _ => false
def TabOk (K : PySem.W.Frag) (w : World) (x : Str) (t : Tb) : Prop := He.dicW K (He.ga K x) = some (He.keysIn w.params (t.map (·.1))) ∧ tabB K x t = true
def tbAt (t : Tb) (z : Str) : Option D := (t.find? fun p => decide (p.1 = z)).map (·.2)
theorem keys_no {P : Params} {z : Str} : ∀ {l : List DictEntry} {ks : List Str}, l.map He.keyOf = He.keysIn P ks → z ∉ ks → l.find? (·.key.isStr z) = none ∧ l.any (·.refKey) = false
  | [], _, _, _ => ⟨rfl, rfl⟩
  | e :: r, [], h, _ => by cases h
  | e :: r, k :: ks, h, m => by
    have h1 : He.keyOf e :: r.map He.keyOf = some (k, PyData.keyHash P k) :: He.keysIn P ks := h
    injection h1 with h2 h3
    obtain ⟨r1, r2⟩ := keys_no h3 fun q => m (List.mem_cons_of_mem _ q)
    unfold He.keyOf at h2
    split at h2
    · rename_i x t q
      have h4 := Option.some.inj h2
      obtain ⟨h5, h6⟩ := Prod.mk.inj h4
      have ne : e.key.isStr z = false := by
        rw [q]
        show (x == z) = false
        have : x ≠ z := fun e => m (by rw [← e, h5]; exact List.mem_cons_self)
        simpa using this
      refine ⟨by rw [List.find?_cons, ne]; exact r1, ?_⟩
      rw [List.any_cons, r2]
      unfold DictEntry.refKey
      rw [q]
      rfl
    · cases h2
section
variable {K : PySem.W.Frag} {w : World} {x : Str} {t : Tb}
theorem TabOk.kd (h : TabOk K w x t) : ∃ es n, KDict K w (He.ga K x) es n ∧ es.toList.map He.keyOf = He.keysIn w.params (t.map (·.1)) := by
  obtain ⟨es, n, D⟩ := He.dicW_ok h.1
  refine ⟨es, n, D, ?_⟩
  have e := h.1
  unfold He.dicW at e
  rw [D.at_] at e
  have e1 : (match decide ("dict" = "dict") && ((#[] : Array (Option Value)).isEmpty && !(He.ga K x == sysModules)) with
    | true => some (es.toList.map He.keyOf)
    | false => none) = some (He.keysIn w.params (t.map (·.1))) := e
  rw [D.low] at e1
  exact Option.some.inj e1
theorem TabOk.no (h : TabOk K w x t) {z : Str} (hz : tbAt t z = none) : PySem.W.nsIn K (He.ga K x) z = some none := by
  obtain ⟨es, n, D, e⟩ := h.kd
  have m : z ∉ t.map (·.1) := fun m => by
    obtain ⟨p, hp, e⟩ := List.mem_map.mp m
    unfold tbAt at hz
    rw [Option.map_eq_none_iff, List.find?_eq_none] at hz
    exact hz p hp (decide_eq_true e)
  obtain ⟨r1, r2⟩ := keys_no e m
  unfold PySem.W.nsIn
  rw [D.at_]
  simp only [r1, r2]
  rfl
end
abbrev AlX := He.AlD × List (Option (List (Option (Str × Int))))
abbrev Tabs := List (Str × List Str)
def obXT (fa : List He.Fa) (xf : XF) (fn : List He.DefD) (ts : Tabs) (K : PySem.W.Frag) : AlX := (obX fa xf fn K, ts.map fun t => He.dicW K (He.ga K t.1))
def valXT (fn : List He.DefD) (ts : Tabs) (w : World) : AlX := (He.valD fn, ts.map fun t => some (He.keysIn w.params t.2))
def SaysXT (fa : List He.Fa) (xf : XF) (fn : List He.DefD) (ts : Tabs) (w : World) (K : PySem.W.Frag) : Prop := obXT fa xf fn ts K = valXT fn ts w
section
variable {fa : List He.Fa} {xf : XF} {fn : List He.DefD} {ts : Tabs} {w : World} {K : PySem.W.Frag}
theorem SaysXT.x (c : SaysXT fa xf fn ts w K) : SaysX fa xf fn K := congrArg (fun z : AlX => z.1) c
theorem SaysXT.x1 (c : SaysXT fa xf fn ts w K) : xf K = true := c.x.x1
theorem SaysXT.d (c : SaysXT fa xf fn ts w K) : He.SaysD fa fn K := c.x.d
end
end DL
namespace DL
open PySem
theorem u1 {n c : Nat} (h : n + 64 < c) : n + 1 < c := by omega
end DL
namespace DL
open L2 PySem PySem.Spec PyProof.Rows
def runX (n : Nat) (m : Str → MS) (c : Str) : Ret := match m c (List.replicate n none) with
  | .rt d _ => .rt d .non
  | .nx _ => .rt .non .non
  | _ => .bad
structure FnX (P : Program) (w : World) (K : PySem.W.Frag) (mg : Str → Option Value) (base : Heap) (k : Nat) (f : Addr) (ok : Str → Prop) (F : Str → Ret) : Prop where
  run : ∀ (A : Around) (outer : List Env) (s : Shared) (H : Hp) (p : Addr × Obj) (c : Str) (Q : VK), L2H.RoomH k A → A.guards = some [] → L2H.Hot1 A p → L2H.PinOk outer H s p → L2N.Zn (.ref (He.ga K c)) none p.2 → (∃ vs, p.2.data = .fields vs) → ok c → Env0 P w K mg base A outer s H →
    (∃ A0 : Addr → Prop, (∀ a, A0 a → ∃ o, H a = some o ∧ NT o) ∧ match F c with
      | .rt d _ => ∀ v H', Same H H' → Rp K A0 H' v d → Q v H'
      | _ => False) →
    codeAny (model P w) A (.call (.ref f) ⟨[.ref p.1], []⟩) (CR (L2N.CX P w) outer P w H s Q fun _ _ _ => False) s
  kp : PySem.W.keepIn K (.ref f) = true
theorem FnX.mono {P : Program} {w : World} {K : PySem.W.Frag} {mg : Str → Option Value} {base : Heap} {j k : Nat} {f : Addr} {ok : Str → Prop} {F : Str → Ret} (h : FnX P w K mg base j f ok F) (l : j ≤ k) : FnX P w K mg base k f ok F :=
  ⟨fun A outer s H p c Q hr => h.run A outer s H p c Q (hr.mono l), h.kp⟩
section
variable {P : Program} {w : World} {K : PySem.W.Frag} {mg : Str → Option Value} {base : Heap} {x qual : Str} {params : Arguments} {body : List Stmt} {scope : Scope} {f : Addr} {fd : FuncData}
theorem start_px {A : Addr → Prop} {H : Hp} {N : List Str} {a : Addr} {c : Str} (t : ∀ p, A p → ∃ o, H p = some o ∧ NT o) (hN : 1 ≤ N.length) : RelS K ⟨A, H, none, some (0, a, c)⟩ [0] A (fun _ => none) (L2.start N [.ref a]) H (List.replicate N.length none) := by
  have nn : ∀ {i : Nat} {d : D}, (List.replicate N.length (none : Option D))[i]? = some (some d) → False := fun {i d} e => by
    rw [List.getElem?_replicate] at e
    split at e <;> cases e
  have no1 : ∀ {p : Addr}, (none : Option Addr) = some p → False := fun e => by cases e
  refine ⟨fun _ z => z, fun a z => (let ⟨o, e, _⟩ := t a z; ⟨o, e⟩), t, fun _ _ e _ => e, ?_, fun i d e _ => (nn e).elim, fun i d e _ => (nn e).elim, fun i p _ e => (no1 e).elim, fun i p _ e => (no1 e).elim, fun i j p _ _ e => (no1 e).elim, fun i a' c' e => ?_, fun p e => (no1 e).elim⟩
  · unfold L2.start
    simp only [List.length_append, List.length_map, List.length_replicate, List.length_cons, List.length_nil]
    omega
  · cases e
    exact ⟨List.mem_singleton.mpr rfl, start_get rfl⟩
theorem fnX_of {N ps : List Str} {k : Nat} {ok : Str → Prop} {O' : List Nat} {m : Str → MS} (F : FunD K x qual params body scope [] [] f fd) (S : FnScope N ps scope) (h1 : ps.length = 1) (hb : Binds K fd ps [])
    (hbody : ∀ (cdv : Value) (A : Around) (outer : List Env) (s : Shared) (H : Hp) (E : XK) (A0 : Addr → Prop) (p : Addr × Obj) (c : Str), L2H.Hot1 A p → L2N.Zn (.ref (He.ga K c)) none p.2 → (∃ vs, p.2.data = .fields vs) → ok c → L2H.RoomH k (A.deeper (envOfC qual scope s.heap.objs.size f cdv)) → A.guards = some [] →
      DSs (L2H.cxH (L2N.CX P w) P w K mg base N qual scope f cdv A outer s H E p) ⟨A0, H, none, some (0, p.1, c)⟩ (fun _ => True) [] [0] O' (fun _ _ _ _ => False) false body (m c)) :
    FnX P w K mg base (k + 1) f ok (runX N.length m) := by
  refine ⟨fun A outer s H p c Q hr hg hot pin hz hf hok e0 ⟨A0, trk, post⟩ => ?_, F.kp⟩
  obtain ⟨oc, od, dV, kV, doc, pm, an, cdv, ct, osl, rfl, lk, hcd, _, _⟩ := F.ex
  have KXh : K.In s.heap := e0.mod.kin.keeps fun b o e => (e0.bs b o e).1
  have limit : s.heap.NoLimit := e0.mod.nolimit.keeps fun b o e => (e0.bs b o e).1
  have hN : 1 ≤ N.length := by
    have := congrArg List.length S.pre
    rw [List.length_take] at this
    omega
  have kinds : ∀ y ∈ ps.zip [Value.ref p.1], scope.names.lookup y.1 = some .local ∨ (scope.names.lookup y.1 = some .cell ∧ ((cellsFrom (s.heap.objs.size + 1) scope.names []).lookup y.1).isSome = true) := fun ⟨n, v⟩ hy => by
    rcases S.par n (List.of_mem_zip hy).1 with z | z
    · exact .inl z
    · exact .inr ⟨z, PySem.W.cellsFrom_some _ _ _ (.inl z)⟩
  have hul : ([Value.ref p.1] ++ ([] : List Value)).length = ps.length := by simp [h1]
  refine codeAny_call_function hr.depth (KXh _ _ lk) rfl S.co S.gen rfl (PySem.W.codeRec_of KXh hcd) (hb s [.ref p.1] KXh hul _ _ _ _ ?_)
  refine wpAny_newFunctionEnv_cells S.kind kinds fun env henv s1 made => ?_
  subst henv
  refine ⟨limit.keeps made.toInCall.keep, codeAny_func ?_⟩
  have I : Inv (L2H.cxH (L2N.CX P w) P w K mg base N qual scope f cdv A outer s H (fun _ _ _ => False) p) [] (L2.start N [.ref p.1]) H s1 := L2H.inv_startH S pin e0 (by simp [h1]) (.cons rfl .nil) made
  have R := start_px (K := K) (N := N) (a := p.1) (c := c) trk hN
  have body := hbody cdv A outer s H (fun _ _ _ => False) A0 p c hot hz hf hok (hr.deeper _) hg
  have goal : tS K ⟨A0, H, none, some (0, p.1, c)⟩ (fun _ => True) [] [0] O' (fun _ _ _ _ => False) false (m c) { nx := fun _ H' => Q .non H', rt := Q } (L2.start N [.ref p.1]) H := by
    refine ⟨A0, _, _, R, ?_⟩
    unfold runX at post
    cases hm : m c (List.replicate N.length none) with
    | bad => rw [hm] at post; exact post.elim
    | bk ρ => rw [hm] at post; exact post.elim
    | ct ρ => rw [hm] at post; exact post.elim
    | ex y ρ => rw [hm] at post; exact post.elim
    | rt d ρ =>
      rw [hm] at post
      exact fun v H' rg => post v H' (fun a o e => rg.1 a o e (by simp)) rg.2.1
    | nx ρ =>
      rw [hm] at post
      exact fun σ' H' A' ms' R' _ => post .non H' (fun a o e => R'.keep a o e (by simp)) .non
  refine wpAny_mono (body.run [] s1 (L2.start N [.ref p.1]) H _ I goal) (fun fl s' hs => ?_) fun e s' hs => hs
  have done : ∀ {σ' : L2.St} {H' : Hp} {v : V} {u : Value}, Inv (L2H.cxH (L2N.CX P w) P w K mg base N qual scope f cdv A outer s H (fun _ _ _ => False) p) [] σ' H' s' → RelV v u → Q v H' → CE outer P w H s Q u s' :=
    fun {σ' H' v u} J rv q => ⟨v, H', J.os, J.bare, J.base, J.hok, rv, q⟩
  cases fl with
  | ret u =>
    obtain ⟨v, σ', H', J, rv, qq⟩ := hs
    exact done J rv qq
  | next =>
    obtain ⟨σ', H', J, qq⟩ := hs
    exact done (v := V.non) (u := Value.none) J rfl qq
  | brk =>
    obtain ⟨_, _, _, qq⟩ := hs
    exact qq.elim
  | cont =>
    obtain ⟨_, _, _, qq⟩ := hs
    exact qq.elim
end
section
variable {X : Cx} {G : Gd} {O : List Nat} {W : WX} {i j : Nat} {a f : Addr} {k n x : Str} {ok : Str → Prop} {F : Str → Ret} {q np pos : Pos}
def HotE (X : Cx) (a : Addr) (k : Str) : Prop := ∃ oe, (a, oe) ∈ X.pn ∧ L2H.Hot1 X.A (a, oe) ∧ L2N.Zn (.ref (He.ga X.K k)) none oe ∧ ∃ vs, oe.data = .fields vs
def mCallX (F : Str → Ret) (k : Str) : ME := fun ρ => match F k with
  | .rt d _ => .ok d ρ
  | _ => .bad
theorem de_callX (C : FnX X.prog X.w X.K X.mg X.base j f ok F) (hpx : G.px = some (i, a, k)) (hok : ok k) (hr : L2H.RoomH j X.A) (hg : X.A.guards = some []) (hot : HotE X a k) (hn : Gl X x) (hm : X.mg x = some (.ref f)) (hN : X.N[i]? = some n) (hv : Vis X.env.scope n)
    (hdb : (x == ("__debug__" : Str)) = false := by decide) (hd1 : (n == ("__debug__" : Str)) = false := by decide) (hd2 : (n == ("__classdict__" : Str)) = false := by decide)
    (he : starEach [.Name n np] X.env = (false, eval (.Name n np) X.env) :: starEach [] X.env := by rfl) (hpl : (backTo pos (starEach [] X.env)).any (·.1) = false := by rfl) :
    DE X G O W (.Call (.Name x q) [.Name n np] [] pos) (mCallX F k) := by
  refine ⟨fun pins s σ H Q I ⟨A, ms, ρ, R, post⟩ => wpAny_Call_Name_kw (ld_glob I hn hm ?_ hdb)⟩
  obtain ⟨_, h1⟩ := R.px i a k hpx
  refine PySem.W.callWith_K (h₀ := X.base) I.ok.mod.kin C.kp (thn ((pa_cons (pe_var hN hv hd1 hd2) pa_nil he).run pos pins s σ H (fun vs H1 => vs = [.ref a] ∧ H1 = H) I ⟨.ref a, h1, rfl, rfl⟩) fun us s1 ⟨vs, H1, I1, r, hvs, hH⟩ => ⟨I1.kIn, ?_⟩) he hpl
  subst hH
  subst hvs
  obtain ⟨u, rfl, ru⟩ := vals1 r
  obtain rfl : u = Value.ref a := ru
  obtain ⟨oe, hp, hot1, hz, hf⟩ := hot
  have P1 := I1.pin (a, oe) (List.mem_append_left _ hp)
  have hpin : L2H.PinOk X.stack H1 s1 (a, oe) := ⟨P1.1, P1.2.1, fun hm => (List.mem_cons.mp (I1.stkSub a hm)).elim P1.2.2.1 P1.2.2.2.1, P1.2.2.2.2⟩
  refine wpAny_call (codeAny_mono (C.run X.A X.stack s1 H1 (a, oe) k Q hr hg hot1 hpin hz hf hok I1.env0 ⟨A, R.trk, ?_⟩) fun res s' hres => ?_)
  · unfold mCallX at post
    cases hF : F k with
    | rt d o =>
      rw [hF] at post
      exact fun v H' sm rr => post v H' (R.same sm) (Kp.same sm) rr
    | ex y o => rw [hF] at post; exact post.elim
    | bad => rw [hF] at post; exact post.elim
  · cases res with
    | error e =>
      obtain ⟨_, _, _, _, _, _, _, _, _, _, _, _, z⟩ := (show L2N.CX X.prog X.w X.stack H1 s1 (fun _ _ _ => False) e s' from hres)
      exact z.elim
    | ok fl =>
      cases fl with
      | ret u => exact I1.after hres
      | next => exact hres.elim
      | brk => exact hres.elim
      | cont => exact hres.elim
theorem hotE_s {oe : Obj} {pn : List (Addr × Obj)} (hz : L2N.Zn (.ref (He.ga X.K k)) none oe) (hf : ∃ vs, oe.data = .fields vs) : HotE (X.suite a ((a, oe) :: pn)) a k :=
  let ⟨vs, hd⟩ := hf; ⟨oe, List.mem_cons_self, ⟨rfl, vs, hd, hz.2.2 vs hd⟩, hz, hf⟩
theorem hotE_h {CX : CXT} {P : Program} {w : World} {K : PySem.W.Frag} {mg : Str → Option Value} {base : Heap} {N : List Str} {qual : Str} {scope : Scope} {fa : Addr} {cd : Value} {A : Around} {outer : List Env} {s : Shared} {H : Hp} {E : XK} {p : Addr × Obj}
    (hot : L2H.Hot1 A p) (hz : L2N.Zn (.ref (He.ga K k)) none p.2) (hf : ∃ vs, p.2.data = .fields vs) : HotE (L2H.cxH CX P w K mg base N qual scope fa cd A outer s H E p) p.1 k :=
  ⟨p.2, List.mem_singleton.mpr rfl, hot, hz, hf⟩
theorem hotE_is (h : HotE X a k) (C : ExcC X.K (He.ga X.K k)) : CallR X (.builtin "isinstance") (rIsE X.K (He.ga X.K k) a) := by
  obtain ⟨oe, hp, _, hz, hf⟩ := h
  intro pins s σ H xs us Q I r h
  obtain ⟨c, cv, b, rfl, hcv, e, q⟩ := h
  cases r with
  | cons rx rr =>
    cases rr with
    | cons rt rr =>
      cases rr
      cases rx
      have ec := hcv _ rt
      subst ec
      obtain ⟨hget, _⟩ := I.pin (a, oe) (List.mem_append_left _ hp)
      obtain ⟨vs, hv⟩ := hf
      have J : PySem.W.InstAt s.heap a oe (He.ga X.K k) none := by
        obtain ⟨oc, od, oda, osl⟩ := oe
        obtain ⟨h1, h2⟩ := hz.zc
        dsimp only at h1 h2 hv
        subst h1 h2 hv
        exact ⟨hget, rfl, rfl, trivial⟩
      exact PySem.W.kia_one (PySem.W.handS_kitx_exc C.hg C.hk C.hs C.hd C.ha C.hn C.ht C.hm) I.kIn J e (fun z => nomatch z) fun tk => ⟨.bl b, H, I.kept (t' := tk) fun _ _ z => z, rfl, q⟩
end
theorem roomS {j : Nat} {A : Around} {v : Option Value} (h : Room j A) : L2H.RoomH j (A.mark v) := ⟨h.dp, h.un⟩
theorem npx {A0 : Addr → Prop} {H : Hp} {io : Option Addr} {i j : Nat} {a : Addr} {c : Str} (h : i ≠ j) : NPx ⟨A0, H, io, some (i, a, c)⟩ j := fun i' a' c' e => by cases e; exact h
end DL
namespace DL
open L2 PySem PySem.Spec PyProof.Rows
theorem roomH_64 {j : Nat} {A : Around} (h : L2H.RoomH j A) : A.units + 64 < cLine := by have := h.un; omega
theorem roomH_65 {j : Nat} {A : Around} (h : L2H.RoomH j A) : A.units + 65 < cLine := by have := h.un; omega
end DL
namespace DL
open L2 PySem PySem.Spec PyProof.Rows
def gAnyI : List D → Option D
  | [.lst l] => (asInts l).map fun ns => .bl (ns.any fun n => n != 0)
  | _ => none
section
variable {X : Cx}
theorem vals_ints : ∀ {ns : List Int} {us : List Value}, Vals (ns.map V.int) us → ∃ ts : List Tok, us.length = ns.length ∧ ∀ (i : Nat) (v : Value), us[i]? = some v → ∃ t, v = Value.int (ns.getD i 0) t
  | [], us, h => by
    cases h
    exact ⟨[], rfl, fun i v e => by simp at e⟩
  | n :: ns, us, h => by
    rw [List.map_cons] at h
    cases h with
    | cons r t =>
      obtain ⟨t0, rfl⟩ := r
      obtain ⟨_, h1, h2⟩ := vals_ints t
      refine ⟨[], by rw [List.length_cons, List.length_cons, h1], fun i v e => ?_⟩
      cases i with
      | zero => cases e; exact ⟨t0, rfl⟩
      | succ i => exact h2 i v (by simpa using e)
theorem truth_intsL {prog : Program} {w : World} {A : Around} {ns : List Int} {its : List Value} (e : ∀ (i : Nat) (v : Value), its[i]? = some v → ∃ t, v = Value.int (ns.getD i 0) t) :
    TruthOf prog w A (fun i v => its.toArray[i]? = some v) (fun i => ns.getD i 0 != 0) := fun i v s Q E hv hq => by
  obtain ⟨t, rfl⟩ := e i v (by simpa using hv)
  exact truthy_int hq
theorem any_rangeI (ns : List Int) : (List.range ns.length).any (fun i => ns.getD i 0 != 0) = ns.any fun n => n != 0 := by
  rw [Bool.eq_iff_iff, List.any_eq_true, List.any_eq_true]
  constructor
  · rintro ⟨i, hi, h⟩
    have hi := List.mem_range.mp hi
    exact ⟨ns[i], List.getElem_mem hi, by simpa [List.getD, hi] using h⟩
  · rintro ⟨n, hn, h⟩
    obtain ⟨i, hi, rfl⟩ := List.getElem_of_mem hn
    exact ⟨i, List.mem_range.mpr hi, by simpa [List.getD, hi] using h⟩
theorem cr_anyI (hc : X.calm = true) : CallR X (.builtin "any") (fun vs H Q => ∃ (a : Addr) (ns : List Int), vs = [V.ref a] ∧ SqL X.K H a (ns.map V.int) ∧ Q (.bl (ns.any fun n => n != 0)) H) := by
  intro pins s σ H vs us Q I r h
  obtain ⟨a, ns, rfl, hs, q⟩ := h
  obtain ⟨its, rv, hl, _⟩ := I.list hs
  rw [Vals.ref1 r]
  obtain ⟨_, hb1, hb2⟩ := vals_ints rv
  refine call_any_walk (iter_any hl.isList fun s₂ e2 st hne => ?_)
  subst e2
  refine ⟨_, _, _, _, _, _, _, rfl, Walks.list (A := X.A.in1) (I.ok.hd hc) _ a hne its.toArray, st, truth_intsL hb2, fun h' tk hk => ?_⟩
  refine ⟨.bl _, H, I.kept fun b o eo => hk b o (fun hmem => ?_) (Heap.get?_push_of_some _ eo), ?_, q⟩
  · rcases List.mem_cons.mp hmem with e1 | hmem
    · exact absurd (e1 ▸ Heap.lt_size eo) (Nat.lt_irrefl _)
    · cases hmem
  · show Value.bool _ = Value.bool _
    rw [← any_rangeI, List.size_toArray, hb1]
theorem b_anyI (hc : X.calm = true) : CallR X (.builtin "any") (rDN X.K gAnyI) := by
  intro pins s σ H xs us Q I r ⟨A, ds, d, t, p, e, q⟩
  unfold gAnyI at e
  split at e
  · rename_i l
    obtain ⟨ns, hb, rfl⟩ := map_some e
    obtain ⟨v, rfl, hv⟩ := one_arg p
    obtain ⟨a, ys, rfl, h, rr⟩ := hv.lst
    rw [asInts_eq hb] at rr
    rw [rr.ints] at h
    exact cr_anyI hc pins s σ H _ us Q I r ⟨a, ns, rfl, SqL.of h, q _ _ (Same.refl _) (.bl _)⟩
  · cases e
end
end DL
namespace CbK
open PySem PySem.Spec PyProof.Rows
section
variable {prog : Program} {w : World} {A : Around} {E : Value → Shared → Prop} {s : Shared}
theorem StopE.type {e : Value} {h : Heap} (q : CpRep.StopE e h) : ({ s with heap := h } : Shared).TypeIs e "StopIteration" := by
  obtain ⟨a, o, vs, rfl, ho, hc, _⟩ := q
  exact ⟨o, ho, hc⟩
end
end CbK
namespace DL
open L2 PySem PySem.Spec PyProof.Rows
end DL
namespace DL
open L2 PySem PySem.Spec PyProof.Rows
section
variable {κ : Type} [DecidableEq κ]
def putV (kf : D → Option κ) (ks vs : List D) (k : D) (v : D) : List D × List D :=
  if ks.any (fun x => decide (kf x = kf k)) then (ks, (ks.zip vs).map fun p => if kf p.1 = kf k then v else p.2) else (ks ++ [k], vs ++ [v])
end
end DL
namespace DL
open PySem.W L2 PySem PySem.Spec PyProof.Rows
end DL
namespace DL
open L2 PySem PySem.Spec PyProof.Rows
section
variable {X : Cx} {G : Gd} {XC : List Nat → Prop} {Ol O O' : List Nat} {W : WX} {fr : Bool} {e : Expr} {me : ME} {mr : MA} {pos p : Pos} {x : Str}
theorem RelS.up {K : PySem.W.Frag} {A : Addr → Prop} {ms : Nat → Option Addr} {σ : L2.St} {H : Hp} {ρ : En} {d : Addr} {o : HO} (R : RelS K G O A ms σ H ρ) (h : H d = none) : RelS K G O A ms σ (upd H d o) ρ := R.same (same_upd h)
end
end DL
namespace DL
open L2 PySem PySem.Spec PyProof.Rows
abbrev FnC : Type := Option (Str × Str × Arguments × FuncBody × Scope × Addr × List Str × Addr)
def fnC (K : PySem.W.Frag) (f : Addr) : FnC := match K.lookup f with
  | some ⟨_, _, .func fd, _⟩ => some (fd.name, fd.qualname, fd.params, fd.body, fd.scope, fd.globals, fd.closure.map (·.1), fd.builtins)
  | _ => none
structure InD where
  c : Str
  val : FnC
abbrev AlY : Type := He.AlD × List FnC
def obY (fa : List He.Fa) (xf : XF) (fn : List He.DefD) (ins : List InD) (K : PySem.W.Frag) : AlY := (obX fa xf fn K, ins.map fun d => fnC K (He.ma K (He.ga K d.c) "__init__"))
def valY (fn : List He.DefD) (ins : List InD) : AlY := (He.valD fn, ins.map InD.val)
def SaysY (fa : List He.Fa) (xf : XF) (fn : List He.DefD) (ins : List InD) (K : PySem.W.Frag) : Prop := obY fa xf fn ins K = valY fn ins
section
variable {fa : List He.Fa} {xf : XF} {fn : List He.DefD} {ins : List InD} {K : PySem.W.Frag}
theorem SaysY.x (c : SaysY fa xf fn ins K) : SaysX fa xf fn K := congrArg (fun z : AlY => z.1) c
theorem SaysY.x1 (c : SaysY fa xf fn ins K) : xf K = true := c.x.x1
theorem SaysY.d (c : SaysY fa xf fn ins K) : He.SaysD fa fn K := c.x.d
end
end DL
namespace DL
open L2 PySem PySem.Spec PyProof.Rows
end DL
namespace DL
open L2 PySem PySem.Spec PyProof.Rows
end DL
namespace DL
open L2 PySem PySem.Spec PyProof.Rows
def Gd.lend (G : Gd) (j : Nat) (p : Addr) (ws : List V) : Gd := { A0 := fun a => G.A0 a ∨ a = p, H0 := fun b => if b = p then some (.lst ws) else G.H0 b, io := G.io, px := some (j, p, Str.empty) }
theorem lend_up {G : Gd} {j : Nat} {p : Addr} {ws : List V} (h : G.H0 p = none) (b : Addr) (o : HO) (e : G.H0 b = some o) : (G.lend j p ws).H0 b = some o := by
  show (if b = p then some (HO.lst ws) else G.H0 b) = some o
  rw [if_neg fun z => by rw [z, h] at e; cases e]
  exact e
theorem lend_p {G : Gd} {j : Nat} {p : Addr} {ws : List V} : (G.lend j p ws).H0 p = some (.lst ws) := if_pos rfl
section
variable {K : PySem.W.Frag} {G : Gd} {O : List Nat} {A : Addr → Prop} {ms : Nat → Option Addr} {σ : L2.St} {H : Hp} {ρ : En} {j : Nat} {p : Addr} {ws : List V} {cs : List D}
theorem RelS.lend (R : RelS K G O A ms σ H ρ) (hj : j ∈ O) (hd : ρ[j]? = some (some (.lst cs))) (h0 : j ≠ 0 ∨ G.io = none) (e0 : ms j = some p) (e1 : σ[j]? = some (some (.ref p))) (hp : H p = some (.lst ws)) :
    RelS K (G.lend j p ws) O A (fun i => if i = j then none else ms i) σ H (ρ.set j none) ∧ G.H0 p = none ∧ G.io ≠ some p := by
  have nio : G.io ≠ some p := fun z => by
    obtain ⟨z0, _, z2, _⟩ := R.io p z
    have e := R.dist j 0 p hj z0 e0 z2
    rcases h0 with h | h
    · exact h e
    · rw [h] at z; cases z
  have g0 : G.H0 p = none := by
    rcases R.ok j p hj e0 with ⟨_, h⟩ | ⟨_, h⟩
    · exact absurd h nio
    · exact h
  have ne : ∀ {i : Nat} {z : D}, (ρ.set j none)[i]? = some (some z) → i ≠ j := fun {i z} e h => by
    subst h
    by_cases hl : i < ρ.length
    · rw [List.getElem?_set_self hl] at e; cases e
    · rw [List.getElem?_eq_none (by rw [List.length_set]; omega)] at e; cases e
  have g : ∀ {i : Nat} {z : D}, (ρ.set j none)[i]? = some (some z) → ρ[i]? = some (some z) := fun {i z} e => by
    have e' := e
    rw [set_get_ne (ne e)] at e'
    exact e'
  have sm : ∀ {i : Nat} {q : Addr}, (if i = j then none else ms i) = some q → i ≠ j ∧ ms i = some q := fun {i q} e => by
    by_cases h : i = j
    · rw [if_pos h] at e; cases e
    · rw [if_neg h] at e; exact ⟨h, e⟩
  refine ⟨?_, g0, nio⟩
  exact {
    sub := fun a z => by
      rcases z with z | z
      · exact R.sub a z
      · rw [z]; exact R.inA j p hj e0
    trk0 := fun a z => by
      rcases z with z | z
      · obtain ⟨o, e⟩ := R.trk0 a z
        exact ⟨o, lend_up g0 a o e⟩
      · rw [z]; exact ⟨_, lend_p⟩
    trk := R.trk
    keep := fun a o e n => by
      have e' : (if a = p then some (HO.lst ws) else G.H0 a) = some o := e
      by_cases h : a = p
      · rw [if_pos h] at e'
        cases e'
        rw [h]; exact hp
      · rw [if_neg h] at e'
        exact R.keep a o e' n
    len := by rw [List.length_set]; exact R.len
    fz := fun i d e n => R.fz i d (g e) n
    ow := fun i d e m => by
      obtain ⟨q, q0, q1, w⟩ := R.ow i d (g e) m
      exact ⟨q, (if_neg (ne e)).trans q0, q1, w⟩
    inA := fun i q m e => R.inA i q m (sm e).2
    ok := fun i q m e => by
      obtain ⟨n1, e2⟩ := sm e
      rcases R.ok i q m e2 with w | ⟨w1, w2⟩
      · exact .inl w
      · refine .inr ⟨w1, ?_⟩
        show (if q = p then some (HO.lst ws) else G.H0 q) = none
        rw [if_neg fun (z : q = p) => n1 (R.dist i j p m hj (by rw [z] at e2; exact e2) e0)]
        exact w2
    dist := fun i i' q m m' e e' => R.dist i i' q m m' (sm e).2 (sm e').2
    px := fun i a c e => by
      cases e
      exact ⟨hj, e1⟩
    io := fun q e => by
      obtain ⟨z0, z1, z2, d, z3⟩ := R.io q e
      have n0 : (0 : Nat) ≠ j := fun z => by
        rcases h0 with h | h
        · exact h z.symm
        · have e' : G.io = some q := e
          rw [h] at e'; cases e'
      exact ⟨z0, .inl z1, (if_neg n0).trans z2, d, by rw [set_get_ne n0]; exact z3⟩ }
theorem RelS.unlend {A' : Addr → Prop} {ms' : Nat → Option Addr} {σ' : L2.St} {H' : Hp} {ρ' : En} (R : RelS K (G.lend j p ws) O A' ms' σ' H' ρ') (hn : G.px = none) (hj : j ∈ O) (h0 : j ≠ 0 ∨ G.io = none) (g0 : G.H0 p = none) (nio : G.io ≠ some p) (t0 : ∀ a, G.A0 a → ∃ o, G.H0 a = some o) (r : RpA K A' H' ws cs) :
    RelS K G O A' (fun i => if i = j then some p else ms' i) σ' H' (ρ'.set j (some (.lst cs))) := by
  have hp : H' p = some (.lst ws) := R.keep p _ lend_p nio
  obtain ⟨_, e1⟩ := R.px j p _ rfl
  have sm : ∀ {i : Nat} {q : Addr}, i ≠ j → (if i = j then some p else ms' i) = some q → ms' i = some q := fun {i q} n e => by rw [if_neg n] at e; exact e
  have no : ∀ i ∈ O, ms' i ≠ some p := fun i m e => by
    rcases R.ok i p m e with ⟨_, w⟩ | ⟨_, w⟩
    · exact nio w
    · have w' : (G.lend j p ws).H0 p = none := w
      rw [lend_p] at w'; cases w'
  exact {
    sub := fun a z => R.sub a (.inl z)
    trk0 := t0
    trk := R.trk
    keep := fun a o e n => R.keep a o (lend_up g0 a o e) n
    len := by rw [List.length_set]; exact R.len
    fz := fun i d e n => by
      have ij : i ≠ j := fun z => n (z ▸ hj)
      rw [set_get_ne ij] at e
      exact R.fz i d e n
    ow := fun i d e m => by
      by_cases h : i = j
      · subst h
        have hl : i < ρ'.length := by
          by_cases hl : i < ρ'.length
          · exact hl
          · rw [List.getElem?_eq_none (by rw [List.length_set]; omega)] at e; cases e
        rw [List.getElem?_set_self hl] at e
        cases e
        exact ⟨p, if_pos rfl, e1, .lst hp r⟩
      · rw [set_get_ne h] at e
        obtain ⟨q, q0, q1, w⟩ := R.ow i d e m
        exact ⟨q, (if_neg h).trans q0, q1, w⟩
    inA := fun i q m e => by
      by_cases h : i = j
      · rw [if_pos h] at e; cases e
        exact R.sub p (.inr rfl)
      · exact R.inA i q m (sm h e)
    ok := fun i q m e => by
      by_cases h : i = j
      · rw [if_pos h] at e; cases e
        subst h
        exact .inr ⟨h0, g0⟩
      · rcases R.ok i q m (sm h e) with w | ⟨w1, w2⟩
        · exact .inl w
        · refine .inr ⟨w1, ?_⟩
          cases z : G.H0 q with
          | none => rfl
          | some o => rw [lend_up g0 q o z] at w2; cases w2
    dist := fun i i' q m m' e e' => by
      by_cases h : i = j
      · by_cases h' : i' = j
        · rw [h, h']
        · rw [if_pos h] at e; cases e
          exact absurd (sm h' e') (no i' m')
      · by_cases h' : i' = j
        · rw [if_pos h'] at e'; cases e'
          exact absurd (sm h e) (no i m)
        · exact R.dist i i' q m m' (sm h e) (sm h' e')
    px := fun i a c e => by rw [hn] at e; cases e
    io := fun q e => by
      obtain ⟨z0, z1, z2, d, z3⟩ := R.io q e
      have n0 : (0 : Nat) ≠ j := fun z => by
        rcases h0 with h | h
        · exact h z.symm
        · rw [h] at e; cases e
      refine ⟨z0, ?_, (if_neg n0).trans z2, d, by rw [set_get_ne n0]; exact z3⟩
      rcases z1 with z1 | z1
      · exact z1
      · exact absurd (z1 ▸ e) nio }
theorem retG_unlend {fr : Bool} {v : V} {z o : D} (h : RetG K (G.lend j p ws) fr v H z o) (g0 : G.H0 p = none) (nio : G.io ≠ some p) : RetG K G fr v H z o := by
  obtain ⟨h1, h2⟩ := h
  have t : ∀ {B : Addr → Prop} {B' : Addr → Prop} (hb : ∀ a, B' a → B a), Tr B B' H H := fun hb a o e n => ⟨e, fun z => n (hb a z)⟩
  refine ⟨fun b o' e n => h1 b o' (lend_up g0 b o' e) n, ?_⟩
  unfold RetR at h2 ⊢
  cases fr with
  | false =>
    simp only [Bool.false_eq_true, if_false] at h2 ⊢
    exact ⟨h2.1.tr (t fun a z => .inl z), fun q e => (h2.2 q e).tr (t fun a z => .inl z) (fun _ w => w)⟩
  | true =>
    simp only [if_true] at h2 ⊢
    obtain ⟨r, e1, e2, e3, e4⟩ := h2
    refine ⟨r, e1, ?_, e3.tr (t fun a z => z.elim (fun w => .inl (.inl w)) .inr) (fun _ w => w), fun q e => (e4 q e).tr (t fun a z => z.elim (fun w => .inl (.inl w)) .inr) (fun _ w => w)⟩
    cases q : G.H0 r with
    | none => rfl
    | some o => rw [lend_up g0 _ _ q] at e2; cases e2
end
def backO (j : Nat) (cs : List D) : Out → Out
  | .nx ρ => .nx (ρ.set j (some (.lst cs)))
  | .rt d ρ => .rt d ρ
  | _ => .bad
def msForO (j : Nat) (g : MG) (mb : MS) : MS := fun ρ => match getO ρ j with
  | some (.lst cs) => backO j cs (loopL g mb cs (ρ.set j none))
  | _ => .bad
section
variable {X : Cx} {G : Gd} {XC : List Nat → Prop} {Ol O : List Nat} {W : WX} {fr : Bool} {pos py : Pos} {mb : MS} {g : MG} {tg : Expr} {y : Str} {vs : List Nat} {body : List Stmt} {j : Nat}
theorem ds_forO (hp : PassesOwn (model X.prog X.w) X.A X.env X.xe) (hc : X.calm = true) (hj : O.contains j = true) (h0 : j ≠ 0 ∨ G.io = none) (hn : G.px = none) (hy : PE X (.Name y py) (tVar j)) (hg : ∀ p ws, DG X (G.lend j p ws) O vs tg g) (hb : ∀ p ws, DSs X (G.lend j p ws) XC O O O W fr body mb)
    (hs : ∀ x, foldedSetIterable (.Name y py) X.env x = pure x := by intro _; rfl) : DS X G XC Ol O O W fr (.For tg (.Name y py) body [] pos) (msForO j g mb) := by
  have hj' : j ∈ O := List.contains_iff_mem.mp hj
  have dgE : PG X tg (fun x σ H Q => ∃ (q : Addr × List V), tG X.K (G.lend j q.1 q.2) O vs g x σ H Q) := ⟨fun pins s σ H v u Q I r ⟨q, h⟩ => (hg q.1 q.2).run pins s σ H v u Q I r h⟩
  have bdE : PSs X body (fun D σ H => ∃ (q : Addr × List V), True ∧ tS X.K (G.lend j q.1 q.2) XC O O O W fr mb D σ H) := pss_ex fun q _ => hb q.1 q.2
  refine ps_imp (ps_for hp hc (pi_list hy) dgE bdE hs) fun D0 σ H ⟨A, ms, ρ, R, q⟩ => ?_
  unfold msForO at q
  split at q
  · rename_i cs hd
    have hd' := getO_some hd
    obtain ⟨p, e0, e1, w⟩ := R.ow j _ hd' hj'
    obtain ⟨ws, hp, rr⟩ := own_lst w
    obtain ⟨R1, g0, nio⟩ := R.lend hj' hd' h0 e0 e1 hp
    have hl : ws.length = cs.length := rr.length
    have conv : ∀ {A' : Addr → Prop} {ms' : Nat → Option Addr} {σ' : L2.St} {H' : Hp} {ρ' : En}, RelS X.K (G.lend j p ws) O A' ms' σ' H' ρ' → Tr A A' H H' → RelS X.K G O A' (fun i => if i = j then some p else ms' i) σ' H' (ρ'.set j (some (.lst cs))) :=
      fun R' t => R'.unlend hn hj' h0 g0 nio R.trk0 (rr.tr t)
    -- the loop under the lent list
    have q' : SPost X.K (G.lend j p ws) XC O O W fr A H { nx := D0.nx, rt := D0.rt, bk := fun _ _ => False, ct := fun _ _ => False } (match loopL g mb cs (ρ.set j none) with
        | .nx ρ => .nx ρ
        | .rt d ρ => .rt d ρ
        | _ => .bad) := by
      revert q
      cases loopL g mb cs (ρ.set j none) with
      | nx ρ2 => exact fun q σ' H' A' ms' R' t => q σ' H' A' _ (conv R' t) t
      | rt d ρ2 => exact fun q v H' rg => q v H' (retG_unlend rg g0 nio)
      | ex _ _ => exact fun q => q
      | bk _ => exact fun q => q
      | ct _ => exact fun q => q
      | bad => exact fun q => q
    let fin : Out → Out := fun r => match r with
      | .nx ρ => .nx ρ
      | .rt d ρ => .rt d ρ
      | _ => .bad
    have q2 : SPost X.K (G.lend j p ws) XC O O W fr A H { nx := D0.nx, rt := D0.rt, bk := fun _ _ => False, ct := fun _ _ => False } (fin (loopL g mb cs (ρ.set j none))) := q'
    refine ⟨_, e1, p, rfl, ⟨ws, SqL.of hp⟩, ?_⟩
    refine ⟨fun i m σ' H' => i ≤ cs.length ∧ m = cs.length - i ∧ ∃ A' ms' ρ', RelS X.K (G.lend j p ws) O A' ms' σ' H' ρ' ∧ Tr A A' H H' ∧ SPost X.K (G.lend j p ws) XC O O W fr A' H' { nx := D0.nx, rt := D0.rt, bk := fun _ _ => False, ct := fun _ _ => False } (fin (loopL g mb (cs.drop i) ρ')),
      ⟨cs.length, Nat.zero_le _, rfl, A, _, _, R1, Tr.refl, q2⟩, ?_⟩
    rintro i m σ2 H2 ⟨hi, rfl, A2, ms2, ρ2, R2, t2, q3⟩
    have hp2 : H2 p = some (.lst ws) := R2.keep p _ lend_p nio
    have rr2 : RpA X.K A2 H2 ws cs := rr.tr t2
    by_cases hlt : i < cs.length
    · have hd : cs[i]? = some cs[i] := List.getElem?_eq_getElem hlt
      obtain ⟨v, ev, rv⟩ := rr2.get hd
      have e : cs.drop i = cs[i] :: cs.drop (i + 1) := List.drop_eq_getElem_cons hlt
      rw [e] at q3
      refine .inr ⟨⟨ws, v, SqL.of hp2, ev⟩, fun σ' H' => i + 1 ≤ cs.length ∧ ∃ A' ms' ρ', RelS X.K (G.lend j p ws) O A' ms' σ' H' ρ' ∧ Tr A A' H H' ∧ SPost X.K (G.lend j p ws) XC O O W fr A' H' { nx := D0.nx, rt := D0.rt, bk := fun _ _ => False, ct := fun _ _ => False } (fin (loopL g mb (cs.drop (i + 1)) ρ')),
        fun σ' H' ⟨w1, w2⟩ => ⟨cs.length - (i + 1), by omega, w1, rfl, w2⟩, fun x H3 hy3 => ?_⟩
      obtain ⟨eq, yy⟩ := hy3
      subst eq
      have := yy ws (SqL.of hp2)
      rw [ev] at this
      cases this
      refine ⟨(p, ws), A2, ms2, ρ2, cs[i], R2, rv, ?_⟩
      have q4 : SPost X.K (G.lend j p ws) XC O O W fr A2 H3 { nx := D0.nx, rt := D0.rt, bk := fun _ _ => False, ct := fun _ _ => False } (fin (match g cs[i] ρ2 with
        | .ok _ ρ1 => match mb ρ1 with
          | .nx ρ2 => loopL g mb (cs.drop (i + 1)) ρ2
          | .ct ρ2 => loopL g mb (cs.drop (i + 1)) ρ2
          | .bk ρ2 => .nx ρ2
          | o => o
        | _ => .bad)) := q3
      cases hgd : g cs[i] ρ2 with
      | bad => rw [hgd] at q4; exact q4.elim
      | ex y ρ3 => rw [hgd] at q4; exact q4.elim
      | ok u ρ3 =>
        rw [hgd] at q4
        intro σ4 H4 _ R4 k4
        refine ⟨(p, ws), trivial, A2, ms2, ρ3, R4, ?_⟩
        have t4 : Tr A A2 H H4 := t2.trans (R4.kt k4)
        have q5 := SPost.from (R4.kt k4) q4
        cases hm : mb ρ3 with
        | nx ρ5 =>
          simp only [hm] at q5
          exact fun σ' H' A' ms' R' t => ⟨hlt, A', ms', ρ5, R', t4.trans t, SPost.from t q5⟩
        | ct ρ5 =>
          simp only [hm] at q5
          exact fun σ' H' A' ms' R' t => ⟨hlt, A', ms', ρ5, R', t4.trans t, SPost.from t q5⟩
        | bk ρ5 =>
          simp only [hm] at q5
          exact fun σ' H' A' ms' R' t => q5 σ' H' A' ms' R' t
        | rt d ρ5 => simp only [hm] at q5; exact q5
        | ex y ρ5 => simp only [hm] at q5; exact q5.elim
        | bad => simp only [hm] at q5; exact q5.elim
    · have e : i = cs.length := by omega
      subst e
      refine .inl ⟨⟨ws, SqL.of hp2, Nat.le_of_eq hl⟩, ?_⟩
      rw [List.drop_length] at q3
      exact q3 σ2 H2 A2 ms2 R2 Tr.refl
  · exact q.elim
end
end DL
namespace DL
open L2 PySem PySem.Spec PyProof.Rows
def pyOf (d : D) : PyData := d.py.getD .none
def tupHead : PyData → Bool
  | .tuple (_ :: _) => true
  | _ => false
def plainHead : PyData → Bool
  | .none => false
  | .tuple _ => false
  | _ => true
def sortOk (ds : List D) : Bool := ds.all (fun d => d.py.isSome && decide ((pyOf d).depth ≤ 50)) && ds.all (fun d => ds.all fun d' => PySem.W.alike (pyOf d) (pyOf d')) && (ds.all (fun d => tupHead (pyOf d)) || ds.all fun d => plainHead (pyOf d))
def gSortLD (l : List D) : Option D := if l.length < 2 then some (.lst l) else if sortOk l = true then some (.lst (l.mergeSort (PySem.W.dataLe false pyOf))) else none
def gSortD : List D → Option D
  | [.lst l] => gSortLD l
  | [.scr l] => gSortLD l
  | _ => none
theorem sortOk_alike {ds : List D} (h : sortOk ds = true) : PySem.W.AllAlike (ds.map pyOf) := by
  unfold sortOk at h
  rw [Bool.and_eq_true, Bool.and_eq_true] at h
  intro d hd d' hd'
  obtain ⟨b, hb, rfl⟩ := List.mem_map.mp hd
  obtain ⟨b', hb', rfl⟩ := List.mem_map.mp hd'
  exact List.all_eq_true.mp (List.all_eq_true.mp h.1.2 b hb) b' hb'
theorem sortOk_sortable {ds : List D} (h : sortOk ds = true) : PySem.W.Sortable (ds.map pyOf) := by
  unfold sortOk at h
  rw [Bool.and_eq_true, Bool.or_eq_true] at h
  rcases h.2 with h | h
  · refine .inl fun d hd => ?_
    obtain ⟨b, hb, rfl⟩ := List.mem_map.mp hd
    have := List.all_eq_true.mp h b hb
    unfold tupHead at this
    split at this
    · exact ⟨_, _, by assumption⟩
    · cases this
  · refine .inr fun d hd => ?_
    obtain ⟨b, hb, rfl⟩ := List.mem_map.mp hd
    have := List.all_eq_true.mp h b hb
    constructor
    · intro e
      rw [e] at this
      cases this
    · intro xs e
      rw [e] at this
      cases this
theorem sortOk_py {ds : List D} (h : sortOk ds = true) {d : D} (hd : d ∈ ds) : d.py = some (pyOf d) ∧ (pyOf d).depth ≤ 50 := by
  unfold sortOk at h
  rw [Bool.and_eq_true, Bool.and_eq_true] at h
  have := List.all_eq_true.mp h.1.1 d hd
  rw [Bool.and_eq_true] at this
  obtain ⟨x, hx⟩ := Option.isSome_iff_exists.mp this.1
  refine ⟨?_, of_decide_eq_true this.2⟩
  unfold pyOf
  rw [hx]
  rfl
section
variable {X : Cx} {pins : List (Addr × Obj)} {s : Shared} {σ : L2.St} {H : Hp} {A : Addr → Prop}
theorem each_rp {K : PySem.W.Frag} : ∀ {vs : List V} {us : List Value} {ds : List D}, RpA K A H vs ds → Vals vs us → PySem.W.EachIs (fun u d => ∃ v, RelV v u ∧ Rp K A H v d) us ds
  | [], _, _, .nil, .nil => .nil
  | v :: vs, _, _, .cons r rs, .cons rv rvs => .cons ⟨v, rv, r⟩ (each_rp rs rvs)
theorem rp_each {K : PySem.W.Frag} : ∀ {us : List Value} {ds : List D}, PySem.W.EachIs (fun u d => ∃ v, RelV v u ∧ Rp K A H v d) us ds → ∃ vs, RpA K A H vs ds ∧ Vals vs us
  | _, _, .nil => ⟨[], .nil, .nil⟩
  | _, _, .cons ⟨v, rv, r⟩ t => let ⟨vs, h1, h2⟩ := rp_each t; ⟨v :: vs, .cons r h1, .cons rv h2⟩
theorem reads_each (I : Inv X pins σ H s) : ∀ {us : List Value} {ds : List D}, PySem.W.EachIs (fun u d => ∃ v, RelV v u ∧ Rp X.K A H v d) us ds → (∀ d ∈ ds, d.py = some (pyOf d)) → PySem.W.EachIs (fun u d => ∃ as, Reads s.heap u (pyOf d) as) us ds
  | _, _, .nil, _ => .nil
  | _, _, .cons ⟨v, rv, r⟩ t, h => .cons (Dp.reads I _ v _ (r.dp (h _ List.mem_cons_self)) rv) (reads_each I t fun d hd => h d (List.mem_cons_of_mem _ hd))
theorem b_sortedDF (hu : X.A.units + 64 < cLine) : CallR X (.builtin "sorted") (rFN X.K gSortD) := by
  intro pins s σ H xs us Q I r ⟨A, ds, d, t, p, e, q⟩
  have main : ∀ (l : List D) (a : Addr) (ys : List V), xs = [.ref a] → gSortLD l = some d → SqL X.K H a ys → RpA X.K A H ys l → wpAny (model X.prog X.w) X.A (call (.builtin "sorted") us) (EP X pins σ Q) X.xe s := by
    intro l a ys ex e h rr
    subst ex
    obtain ⟨its, rv, hl, hz⟩ := I.list h
    obtain ⟨u, rfl, ru⟩ := vals1 r
    obtain rfl : u = Value.ref a := ru
    have le : ys.length = l.length := rr.length
    have li : ys.length = its.length := rv.length
    have ee := each_rp rr rv
    unfold gSortLD at e
    split at e
    · rename_i hlt
      cases e
      refine SrtO.sorted_ord (ltv := fun _ _ => false) ⟨fun _ _ _ => rfl, fun _ _ _ _ _ => rfl⟩ hl.isList (by omega) (fun h2 => absurd h2 (by omega)) fun out h1 h2 => ?_
      have eo : out = its := by
        have hp := h2.perm
        match its, out, hp with
        | [], o, hp => exact hp.eq_nil
        | [x], o, hp => exact List.perm_singleton.mp hp
        | _ :: _ :: _, _, _ => simp at li; omega
      rw [eo]
      obtain ⟨ep, he'⟩ := PyProof.Rows.sortedAll_at s.heap its its.toArray
      have hfr := I.hok.fresh (Nat.le_succ s.heap.objs.size)
      exact ⟨.ref _, upd H (s.heap.objs.size + 1) (.lst ys), I.laid (t' := s.toks) (fun _ _ => PyProof.Rows.sortedAll_old) (Nat.le_succ _) ⟨hz, _, ep, rv, he'⟩, rfl, q _ _ (same_upd hfr) (new_lst t rr hfr) (new_fr t rr hfr)⟩
    · split at e
      · rename_i hok
        cases e
        refine PySem.W.sorted_data (R := fun u d => ∃ v, RelV v u ∧ Rp X.K A H v d) (bs := l) (enc := pyOf) hl.isList ee (reads_each I ee fun d hd => (sortOk_py hok hd).1) (sortOk_alike hok) (sortOk_sortable hok) (by omega) (fun b hb => by have := (sortOk_py hok hb).2; omega) fun out hlen he => ?_
        obtain ⟨vs', r1, r2⟩ := rp_each he
        obtain ⟨ep, he'⟩ := PyProof.Rows.sortedAll_at s.heap its out.toArray
        have hfr := I.hok.fresh (Nat.le_succ s.heap.objs.size)
        have hl2 : vs'.length = out.length := r2.length
        exact ⟨.ref _, upd H (s.heap.objs.size + 1) (.lst vs'), I.laid (t' := s.toks) (fun _ _ => PyProof.Rows.sortedAll_old) (Nat.le_succ _) ⟨by rw [hl2, hlen, ← le]; exact hz, _, ep, r2, he'⟩, rfl, q _ _ (same_upd hfr) (new_lst t r1 hfr) (new_fr t r1 hfr)⟩
      · cases e
  unfold gSortD at e
  split at e
  · obtain ⟨v, rfl, hv⟩ := one_arg p
    obtain ⟨a, ys, rfl, h, rr⟩ := hv.lst
    exact main _ a ys rfl e (SqL.of h) rr
  · obtain ⟨v, rfl, hv⟩ := one_arg p
    obtain ⟨a, ys, rfl, h, rr⟩ := hv.scr
    exact main _ a ys rfl e h.sq rr
  · cases e
theorem b_sortedD (hu : X.A.units + 64 < cLine) : CallR X (.builtin "sorted") (rDN X.K gSortD) := rFN.weak (b_sortedDF hu)
end
end DL
namespace DL
open PySem.W L2 PySem PySem.Spec PyProof.Rows
theorem py_ints : ∀ xs : List Int, pyAll (xs.map D.int) = some (xs.map .int)
  | [] => by unfold pyAll; rfl
  | x :: xs => by
    rw [List.map_cons]
    unfold pyAll
    have : D.py (.int x) = some (.int x) := by unfold D.py; rfl
    rw [this, py_ints xs]
    rfl
theorem pyOf_ints (xs : List Int) : (D.tup (xs.map .int)).py = some (.tuple (xs.map .int)) ∧ pyOf (.tup (xs.map .int)) = .tuple (xs.map .int) := by
  have : (D.tup (xs.map .int)).py = some (.tuple (xs.map .int)) := by
    unfold D.py
    rw [py_ints]
    rfl
  refine ⟨this, ?_⟩
  unfold pyOf
  rw [this]
  rfl
end DL
namespace PySem
open Sem (wp)
section
variable {prog : Program} {w : World} {A : Around} {E : Value → Shared → Prop} {s : Shared} {es : Array DictEntry} {ep : Nat}
theorem wpAny_len_body_raw {d : Addr} {Q : Value → Shared → Prop} (hd : (d == sysModules) = false) (hm : s.heap.DictRaw d es ep) (hfit : (es.size : Int) < 2 ^ 63)
    (h : Q (.int es.size (s.toks + 1)) { s with toks := s.toks + 1 + 1 }) : wpAny (model prog w) A (Builtin.«len» ⟨[.ref d], []⟩) (fun fin s' => ∃ r, fin = .done (.ret r) ∧ Q r s') E s := by
  unfold Builtin.«len»
  refine wpAny_bind (m := oneArg "len" _) (wpAny_pure ?_)
  refine wpAny_bind (m := callSpecial? (.ref d) (Str.ofString "__len__")) (wpAny_callSpecial?_slot (name := Str.ofString "__len__") hm.typeIs F.slot_dict_len
    (call_meetsIn F.slot_dict_len hm.typeIs F.entry_dict_len (F.args_dict_len_1 _) (meets_dict_len_raw d hd) ⟨es, ep, hm, ?_⟩))
  show wpAny _ _ _ _ _ { s with toks := s.toks + 1 }
  refine wpAny_bind (wpAny_holding (wpAny_pure ?_))
  refine wpAny_bind (wpAny_letGo ?_)
  show wpAny _ _ (if ((es.size : Nat) : Int) < 0 then _ else _) _ _ _
  rw [if_neg (by omega)]
  show wpAny _ _ (if ((es.size : Nat) : Int) ≥ 2 ^ 63 then _ else _) _ _ _
  rw [if_neg (by omega)]
  exact wpAny_bind (wpAny_mkInt (wpAny_pure ⟨_, rfl, h⟩))
theorem wpAny_truthy_raw {d : Addr} {Q : Bool → Shared → Prop} (hd : (d == sysModules) = false) (hm : s.heap.DictRaw d es ep) (hfit : (es.size : Int) < 2 ^ 63)
    (h : Q (es.size != 0) { s with toks := s.toks + 1 + 1 }) : wpAny (model prog w) A (truthy (.ref d)) Q E s := by
  have hne : ((es.size : Int) != 0) = (es.size != 0) := by
    rw [Bool.eq_iff_iff]
    simp only [bne_iff_ne, ne_eq]
    omega
  have key : wpAny (model prog w) A (runValue (.builtin "len" ⟨[.ref d], []⟩)) (fun r s' => r = .int es.size (s.toks + 1) ∧ Q (es.size != 0) s') E s := by
    refine wpAny_runValue (codeAny_builtin entry_len ?_)
    rw [Around.under_plainId plain_len _]
    exact wpAny_mono (wpAny_len_body_raw (Q := fun r s' => r = .int es.size (s.toks + 1) ∧ Q (es.size != 0) s') hd hm hfit ⟨rfl, h⟩)
      (fun fin s' h' => by obtain ⟨r, rfl, hq⟩ := h'; exact hq) fun _ _ e => e
  unfold truthy
  first
    | refine wpAny_bind (wpAny_callSpecial?_none (name := Str.ofString "__bool__") hm.typeIs noBool_dict ?_)
    | refine wpAny_bind (wpAny_pure (wpAny_bind (wpAny_callSpecial?_none (name := Str.ofString "__bool__") hm.typeIs noBool_dict ?_)))
  first
    | refine wpAny_bind (wpAny_specialOf (name := Str.ofString "__len__") hm.typeIs F.slot_dict_len.lookup ?_)
    | refine wpAny_bind (wpAny_pure (wpAny_bind (wpAny_specialOf (name := Str.ofString "__len__") hm.typeIs F.slot_dict_len.lookup ?_)))
  first
    | exact wpAny_bind (wpAny_mono key (fun r s' h' => by obtain ⟨rfl, hq⟩ := h'; exact wpAny_pure (hne ▸ hq)) fun _ _ e => e)
    | exact wpAny_bind (wpAny_pure (wpAny_bind (wpAny_mono key (fun r s' h' => by obtain ⟨rfl, hq⟩ := h'; exact wpAny_pure (hne ▸ hq)) fun _ _ e => e)))
end
namespace W
section
variable {prog : Program} {w : World} {A : Around} {E : Value → Shared → Prop} {s : Shared} {T : String} {r d : Addr} {n : Nat} {P : Nat → Value → Prop} {OK : Heap → Prop}
theorem collect_src {R : List Value → Shared → Prop} (K : KdlSrc prog w T r d n P OK) (hh : A.handled = none) (hok : OK s.heap) (hn : n ≤ sizeLine)
    (h : ∀ (h' : Heap) (tk : Nat) (acc : Array Value), (∀ b o, s.heap.get? b = some o → h'.get? b = some o) → s.heap.objs.size < h'.objs.size → ItemsOf P acc n → R acc.toList { s with heap := h', toks := tk }) :
    wpAny (model prog w) A (collect (.ref r)) R E s := by
  have hlt := K.there _ hok
  unfold collect
  refine wpAny_bind (wpAny_runValue (codeAny_builtin PyProof.Rows.entry_proto_collect' ?_))
  rw [Around.under_plainId PySem.F.plain_proto_collect _]
  show wpAny _ A.in1 (newList [] >>= fun l => again (.builtin "list.__iadd__" ⟨[l, .ref r], []⟩)) _ _ s
  refine wpAny_bind (wpAny_newObj_type ?_)
  refine wpAny_pure ⟨plainId_quiet PySem.F.plain_list_iadd _, codeAny_builtin PyProof.Rows.entry_list_iadd' ?_⟩
  rw [Around.under_plainId PySem.F.plain_list_iadd _]
  have hS₁ : (s.heap.push { cls := .type "list", data := .seq ([] : List Value).toArray }).get? s.heap.objs.size = some { cls := .type "list", data := .seq #[] } := Heap.get?_push_size _ rfl
  show wpAny _ A.in1 (Builtin.List.listExtendWith (.ref s.heap.objs.size) (.ref r) (.ref s.heap.objs.size)) _ _ _
  have key := kdl_extend (A := A) (s := { s with heap := s.heap.push { cls := .type "list", data := .seq ([] : List Value).toArray } })
    (R := fun (q : Result) (s' : Shared) => ∃ (h' : Heap) (tk : Nat) (acc' : Array Value) (c' : Nat), q = .ok (.ret (.ref s.heap.objs.size)) ∧ s' = { s with heap := h', toks := tk } ∧
      (∀ b o, s.heap.get? b = some o → h'.get? b = some o) ∧ h'.get? s.heap.objs.size = some { cls := .type "list", dict := none, data := .seq acc' c', slots := #[] } ∧ ItemsOf P acc' n)
    K hh (K.keep _ _ hok fun b _ o e => Heap.get?_push_of_some _ e) s.heap.objs.size (Nat.ne_of_gt hlt.1) (Nat.ne_of_gt hlt.2) (.ref s.heap.objs.size) 0 hS₁
    (fun h' tk acc' c' hk hS' hacc => ⟨h', tk, acc', c', rfl, rfl, fun b o e => hk b o (Nat.ne_of_lt (Heap.lt_size e)) (Heap.get?_push_of_some _ e), hS', hacc⟩) hn
  refine wpAny_mono key (fun fin s' x => ?_) fun e s' x => ?_
  · cases fin with
    | done f =>
      obtain ⟨h', tk, acc', c', e, rfl, hk, hS', hacc⟩ := x
      cases e
      show wpAny _ A (load s.heap.objs.size >>= _) _ _ _
      refine wpAny_bind (wpAny_load hS' ?_)
      exact wpAny_pure (h h' tk acc' hk (Heap.lt_size hS') hacc)
    | again c₁ =>
      refine ⟨x.1, codeAny_mono x.2 fun q s₂ y => ?_⟩
      obtain ⟨h', tk, acc', c', rfl, rfl, hk, hS', hacc⟩ := y
      show wpAny _ A (load s.heap.objs.size >>= _) _ _ _
      refine wpAny_bind (wpAny_load hS' ?_)
      exact wpAny_pure (h h' tk acc' hk (Heap.lt_size hS') hacc)
  · obtain ⟨_, _, _, _, e', _⟩ := x
    cases e'
end
end W
end PySem
namespace DL
open L2 PySem PySem.Spec PyProof.Rows
abbrev OKV : List (List Int × Addr × V) → List (List Int × Addr × Value) → Prop := Paired fun p x => p.1 = x.1 ∧ p.2.1 = x.2.1 ∧ RelV p.2.2 x.2.2
section
variable {P : Program} {w : World} {H : Hp} {h : Heap} {a : Addr} {kvs : List (List Int × Addr × V)}
theorem dto_rd (ok : HOk P w H h) (e : Rd H a (DTo a kvs)) : (a == sysModules) = false ∧ kvs.length ≤ sizeLine ∧ ∃ xs, OKV kvs xs ∧ ∃ o es ep, h.get? a = some o ∧ o.ExactDict ∧ o.data = .dict es ep ∧ es.toList = xs.map EntT ∧ (xs.map (·.1)).Nodup := by
  have := e.ok ok
  exact this.1
theorem dto_ok {H' : Hp} {h' : Heap} {xs : List (List Int × Addr × Value)} (hd : (a == sysModules) = false) (z : kvs.length ≤ sizeLine) (rel : OKV kvs xs) (dd : h'.DictOfH (tupleKind (intKind P w)) a xs) : ObjOk P w H' h' a (DTo a kvs) := by
  obtain ⟨o, es, ep, ho, hc, hdat, he, _, hn⟩ := dd
  exact ⟨⟨hd, z, xs, rel, o, es, ep, ho, hc, hdat, he, hn⟩, ⟨o, ho⟩, fun h1 h2 ⟨b1, b2, ys, b3, o1, es1, ep1, c1, c2⟩ k => ⟨b1, b2, ys, b3, o1, es1, ep1, k _ c1, c2⟩⟩
theorem items_areI {P : Program} {w : World} : ∀ {ks : List Int} {us : List Value}, Vals (ks.map V.int) us → ItemsAre (intKind P w) ks us
  | [], _, r => by rw [List.map_nil] at r; cases r; exact .nil
  | k :: ks, _, r => by
    rw [List.map_cons] at r
    cases r with
    | cons h t =>
      obtain ⟨tk, rfl⟩ := h
      exact .cons (by show Value.isInt k (Value.int k tk) = true; simp [Value.isInt]) (items_areI t)
end
section
variable {X : Cx} {pins : List (Addr × Obj)} {s : Shared} {σ : L2.St} {H : Hp} {A : Addr → Prop} {a : Addr} {kvs : List (List Int × Addr × V)}
theorem key_at (I : Inv X pins σ H s) {q : Addr} {k : List Int} (h : SqT X.K H q (k.map V.int)) : (tupleKind (intKind X.prog X.w)).is s.heap k q := by
  obtain ⟨its, r, ⟨o, h1, h2, n, h3⟩, _⟩ := I.tuple h
  exact ⟨o, its.toArray, n, h1, h2, h3, by simpa using items_areI r⟩
theorem dto_of (I : Inv X pins σ H s) (e : Rd H a (DTo a kvs)) (hk : ∀ p ∈ kvs, SqT X.K H p.2.1 (p.1.map V.int)) :
    (a == sysModules) = false ∧ kvs.length ≤ sizeLine ∧ ∃ xs, OKV kvs xs ∧ s.heap.DictOfH (tupleKind (intKind X.prog X.w)) a xs := by
  obtain ⟨hd, z, xs, rel, o, es, ep, ho, hc, hdat, he, hn⟩ := dto_rd I.hok e
  refine ⟨hd, z, xs, rel, o, es, ep, ho, hc, hdat, he, ?_, hn⟩
  have all : ∀ {l : List (List Int × Addr × V)} {m : List (List Int × Addr × Value)}, OKV l m → (∀ p ∈ l, SqT X.K H p.2.1 (p.1.map V.int)) → ∀ x ∈ m, (tupleKind (intKind X.prog X.w)).is s.heap x.1 x.2.1 := by
    intro l m r
    induction r with
    | nil => intro _ x hx; exact nomatch hx
    | @cons p x ps xs h t ih =>
      intro hs y hy
      rcases List.mem_cons.mp hy with e | hy
      · subst e
        have := hs p List.mem_cons_self
        rw [h.1, h.2.1] at this
        exact key_at I this
      · exact ih (fun p' hp' => hs p' (List.mem_cons_of_mem _ hp')) y hy
  exact all rel hk
end
def rTruD : V → Hp → (Bool → Hp → Prop) → Prop := fun x H Q => ∃ a, x = .ref a ∧ ((∃ kvs, Rd H a (.dK kvs) ∧ Q (!kvs.isEmpty) H) ∨ ∃ kvs, Rd H a (DTo a kvs) ∧ Q (!kvs.isEmpty) H)
theorem tru_dict {X : Cx} : TruR X rTruD := by
  intro pins s σ H x v Q I rx h
  obtain ⟨a, rfl, h⟩ := h
  cases rx
  rcases h with ⟨kvs, e, q⟩ | ⟨kvs, e, q⟩
  · exact d_truth I e fun s' I' => ⟨H, I', q⟩
  · obtain ⟨hd, z, xs, rel, o, es, ep, ho, hc, hdat, he, hn⟩ := dto_rd I.hok e
    have hl : kvs.length = xs.length := Paired.length rel
    have hs : es.size = xs.length := by
      have := congrArg List.length he
      simpa using this
    refine wpAny_truthy_raw hd ⟨o, ho, hc, hdat⟩ (by rw [hs, ← hl]; rw [sizeLine_eq] at z; omega) ?_
    have em : (!kvs.isEmpty) = (es.size != 0) := by
      rw [hs, ← hl]
      cases kvs <;> simp
    rw [← em]
    exact ⟨H, I.tok _, q⟩
def truD : D → Option Bool
  | .dct _ ks _ => some (!ks.isEmpty)
  | _ => none
def mTruD (a : ME) : MT := fun ρ => (a ρ).bind fun x ρ1 => ret (truD x) ρ1
theorem emp_keys {κ : Type} {kf : D → Option κ} {kvs : List (κ × V)} {ks : List D} (e : ks.map kf = kvs.map (fun p => some p.1)) : kvs.isEmpty = ks.isEmpty := by
  have := congrArg List.length e
  simp only [List.length_map] at this
  cases ks <;> cases kvs <;> simp at this ⊢
section
variable {X : Cx} {G : Gd} {O : List Nat} {W : WX} {a : Expr} {ma : ME}
theorem dt_truD (ha : DE X G O W a ma) (he : ∀ whole, isTrue a X.env whole = (do let v ← whole; standAt a.pos; holding [v] (truthy v)) := by intro _; rfl) : DT X G O W a (mTruD ma) := by
  refine pt_imp (pt_truthR ha tru_dict he) fun σ H Q ⟨A, ms, ρ, R, q⟩ => ?_
  refine ⟨A, ms, ρ, R, q.bind.mono ?_⟩
  rintro x H1 ⟨d, ρ1, R1, k1, r1, q1⟩
  obtain ⟨z, hz, q2⟩ := rp_of R1 q1
  unfold truD at hz
  split at hz
  · cases hz
    cases r1 with
    | dK h n e rr => exact ⟨_, rfl, .inl ⟨_, h, by rw [emp_keys e]; exact q2 _ H1 (Same.refl _) rfl⟩⟩
    | @dT _ kvs _ _ h n e rr => exact ⟨_, rfl, .inr ⟨_, h, by
        have : kvs.isEmpty = (kvs.map fun p => D.tup (p.1.map D.int)).isEmpty := by cases kvs <;> rfl
        rw [this, ← e.2]
        exact q2 _ H1 (Same.refl _) rfl⟩⟩
  · cases hz
end
theorem rp_ints {K : PySem.W.Frag} {A : Addr → Prop} {H : Hp} : ∀ k : List Int, RpA K A H (k.map V.int) (k.map D.int)
  | [] => .nil
  | i :: k => .cons (.int i) (rp_ints k)
def gSortDk : List D → Option D
  | [.dct true ks _] => gSortLD ks
  | _ => none
theorem RpB.dctT {K : PySem.W.Frag} {A : Addr → Prop} {H : Hp} {v : V} {ks vs : List D} (h : RpB K A H v (.dct true ks vs)) : ∃ a kvs, v = .ref a ∧ Rd H a (DTo a kvs) ∧ KyR K A H kvs ks ∧ RpA K A H (kvs.map (·.2.2)) vs := by
  cases h with
  | of h =>
    cases h with
    | dT h n e rr => exact ⟨_, _, rfl, h, e, rr⟩
  | ownT h e rr => exact ⟨_, _, rfl, .inl h, e, rr⟩
section
variable {X : Cx} {pins : List (Addr × Obj)} {s : Shared} {σ : L2.St} {H : Hp} {A : Addr → Prop}
theorem dt_each {K : PySem.W.Frag} : ∀ {kvs : List (List Int × Addr × V)} {xs : List (List Int × Addr × Value)}, OKV kvs xs → (∀ p ∈ kvs, SqTA K A H p.2.1 (p.1.map V.int)) → PySem.W.EachIs (fun u d => ∃ v, RelV v u ∧ Rp K A H v d) (xs.map fun x => Value.ref x.2.1) (kvs.map fun p => D.tup (p.1.map D.int))
  | _, _, .nil, _ => .nil
  | p :: _, _, .cons ⟨_, h2, _⟩ rr, hs => .cons ⟨.ref p.2.1, congrArg Value.ref h2.symm, .tup (hs p List.mem_cons_self) (rp_ints p.1)⟩ (dt_each rr fun p' hp' => hs p' (List.mem_cons_of_mem _ hp'))
theorem b_sortedDkF (hc : X.calm = true) (hu : X.A.units + 64 < cLine) : CallR X (.builtin "sorted") (rFN X.K gSortDk) := by
  intro pins s σ H xs us Q I r ⟨A, ds, d, t, p, e, q⟩
  unfold gSortDk at e
  split at e
  · rename_i ks vs
    obtain ⟨v, rfl, hv⟩ := one_arg p
    obtain ⟨u, rfl, ru⟩ := vals1 r
    obtain ⟨a, kvs, rfl, h, ek, rr⟩ := hv.dctT
    · obtain rfl : u = Value.ref a := ru
      obtain ⟨hd, z, ys, rel, o, es, ep, ho, hcx, hdat, he, hn⟩ := dto_rd I.hok h
      have hsz : es.size = ys.length := by
        have := congrArg List.length he
        simpa using this
      have raw : s.heap.DictRaw a es ep := ⟨o, ho, hcx, hdat⟩
      have ent : ∀ i (hi : i < es.size), ∃ y, ys[i]? = some y ∧ es[i].key = .ref y.2.1 := fun i hi => by
        have hx : i < ys.length := hsz ▸ hi
        have e1 : es.toList[i]? = (ys.map EntT)[i]? := by rw [he]
        rw [Array.getElem?_toList, Array.getElem?_eq_getElem hi, List.getElem?_map, List.getElem?_eq_getElem hx, Option.map_some] at e1
        exact ⟨_, List.getElem?_eq_getElem hx, by rw [Option.some.inj e1]; rfl⟩
      have l1 : kvs.length = ys.length := Paired.length rel
      have l2 : ks.length = kvs.length := by rw [ek.2, List.length_map]
      have ee := dt_each (K := X.K) rel ek.1
      rw [← ek.2] at ee
      refine Calls.call_function_entry kind_sorted plain_sorted entry_sorted (args_sorted1 _) ?_
      unfold Builtin.«sorted»
      refine wpAny_bind (m := checkCount "sorted" 1 1 _) (wpAny_pure ?_)
      refine wpAny_bind (PySem.W.collect_src (A := X.A.in1) (PySem.KdlSrc.rawDict hd) (I.ok.hd hc) raw (by omega) fun h' tk acc hk hlt hacc => ?_)
      have al : acc.toList.length = es.size := by rw [Array.length_toList]; exact hacc.1
      have av : acc.toList = ys.map fun x => Value.ref x.2.1 := by
        refine List.ext_getElem? fun i => ?_
        by_cases hi : i < es.size
        · obtain ⟨y, hy, k1⟩ := ent i hi
          have hi' : i < acc.size := by rw [hacc.1]; exact hi
          obtain ⟨hi2, hv⟩ := hacc.2 i acc[i] (Array.getElem?_eq_getElem hi')
          rw [Array.getElem?_toList, Array.getElem?_eq_getElem hi', hv, k1, List.getElem?_map, hy]
          rfl
        · rw [List.getElem?_eq_none (by omega), List.getElem?_eq_none (by rw [List.length_map]; omega)]
      refine wpAny_bind (wpAny_newList ?_ (by rw [al]; omega))
      have hoL : (h'.push { cls := .type "list", data := .seq acc.toList.toArray }).get? h'.objs.size = some (seqObj "list" acc.toList.toArray 0) := Heap.get?_push_size _ rfl
      have fin : ∀ (out : List Value) (vs' : List V), RpA X.K A H vs' (match d with | .lst l => l | _ => []) → Vals vs' out → out.length = ks.length → (∃ l, d = .lst l) → EP X pins σ Q (.ref h'.objs.size) { s with heap := sortedHeap (h'.push { cls := .type "list", data := .seq acc.toList.toArray }) h'.objs.size acc.toList out.toArray, toks := tk } := by
        intro out vs' r1 r2 hl ⟨l, hd2⟩
        subst hd2
        obtain ⟨ep', he'⟩ := sortedHeap_at (out := out.toArray) hoL
        have ne : s.heap.get? h'.objs.size = none := by
          cases q : s.heap.get? h'.objs.size with
          | none => rfl
          | some o => exact absurd (Heap.lt_size (hk _ _ q)) (Nat.lt_irrefl _)
        have hfr : H h'.objs.size = none := I.hok.fresh (Nat.le_of_lt hlt)
        refine ⟨.ref _, upd H h'.objs.size (.lst vs'), I.laid (t' := tk) (fun b o qb => ?_) (Nat.le_of_lt hlt) ⟨by rw [r2.length, hl, l2]; exact z, _, ep', r2, he'⟩, rfl, q _ _ (same_upd hfr) (new_lst t r1 hfr) (new_fr t r1 hfr)⟩
        have hb := hk _ _ qb
        have hlb := Heap.lt_size hb
        rw [sortedHeap_old (Nat.ne_of_lt hlb) (by rw [size_push']; exact Nat.lt_succ_of_lt hlb)]
        exact Heap.get?_push_of_some _ hb
      have hg : wpAny (model X.prog X.w) X.A.in1 (call (.builtin "list.sort") [.ref h'.objs.size]) (fun _ s' => EP X pins σ Q (.ref h'.objs.size) s') X.xe { s with heap := h'.push { cls := .type "list", data := .seq acc.toList.toArray }, toks := tk } := by
        unfold gSortLD at e
        split at e
        · rename_i hlt2
          cases e
          refine wpAny_call_entry slot_list_sort ⟨_, hoL, rfl⟩ entry_list_sort (SrtO.list_sort_ord (ltv := fun _ _ => false) ⟨fun _ _ _ => rfl, fun _ _ _ _ _ => rfl⟩ hoL (by omega) (fun h2 => absurd h2 (by omega)) fun out h1 h2 => ⟨_, rfl, ?_⟩) (args_list_sort _)
          have eo : out = acc.toList := by
            have hp := h2.perm
            have l3 : acc.toList.length < 2 := by omega
            match acc.toList, out, hp, l3 with
            | [], o, hp, _ => exact hp.eq_nil
            | [x], o, hp, _ => exact List.perm_singleton.mp hp
            | _ :: _ :: _, _, _, l3 => simp at l3; omega
          rw [eo]
          rw [← av] at ee
          obtain ⟨vs', r1, r2⟩ := rp_each ee
          exact fin _ vs' r1 r2 (by omega) ⟨_, rfl⟩
        · split at e
          · rename_i hok
            cases e
            rw [← av] at ee
            refine PySem.W.list_sort_data (R := fun u d => ∃ v, RelV v u ∧ Rp X.K A H v d) (bs := ks) (enc := pyOf) hoL ee ?_ (sortOk_alike hok) (sortOk_sortable hok) (by omega) (fun b hb => by have := (sortOk_py hok hb).2; have := X.A.in1_units; omega) fun out hlen he => ?_
            · refine (reads_each I ee fun d hd => (sortOk_py hok hd).1).mono fun u d ⟨as, hr⟩ => ⟨as, PyProof.Rows.Reads.keeps (fun b o qb => Heap.get?_push_of_some _ (hk b o qb)) hr, fun hm => ?_⟩
              obtain ⟨o, ho⟩ := PyProof.On.reads_mem_get hr _ hm
              exact absurd (Heap.lt_size (hk _ _ ho)) (Nat.lt_irrefl _)
            · obtain ⟨vs', r1, r2⟩ := rp_each he
              exact fin _ vs' r1 r2 hlen ⟨_, rfl⟩
          · cases e
      refine wpAny_bind (wpAny_holding (wpAny_mono hg (fun _ s' x => ?_) fun _ _ e => e))
      exact wpAny_pure ⟨_, rfl, x⟩
  · cases e
end
end DL
namespace DL
open L2 PySem PySem.Spec PyProof.Rows
def atO (kvs : List (List Int × Addr × V)) (k : List Int) : Option (Addr × V) := (kvs.find? fun p => decide (p.1 = k)).map (·.2)
def putO (kvs : List (List Int × Addr × V)) (k : List Int) (q : Addr) (v : V) : List (List Int × Addr × V) :=
  if (atO kvs k).isSome then kvs.map (fun p => if p.1 = k then (p.1, p.2.1, v) else p) else kvs ++ [(k, q, v)]
theorem putO_len (kvs : List (List Int × Addr × V)) (k : List Int) (q : Addr) (v : V) : (putO kvs k q v).length ≤ kvs.length + 1 := by
  unfold putO
  split
  · rw [List.length_map]; omega
  · rw [List.length_append]; simp
theorem okv_at {k : List Int} : ∀ {kvs : List (List Int × Addr × V)} {xs : List (List Int × Addr × Value)}, OKV kvs xs → (atO kvs k = none ∧ atKey xs k = none) ∨ ∃ q v u, atO kvs k = some (q, v) ∧ atKey xs k = some (q, u) ∧ RelV v u
  | _, _, .nil => .inl ⟨rfl, rfl⟩
  | p :: kvs, x :: xs, .cons ⟨h1, h2, h3⟩ r => by
    by_cases e : p.1 = k
    · refine .inr ⟨p.2.1, p.2.2, x.2.2, ?_, ?_, h3⟩
      · unfold atO
        rw [List.find?_cons_of_pos (by rw [decide_eq_true_eq]; exact e)]
        rfl
      · unfold atKey
        rw [List.find?_cons_of_pos (by rw [decide_eq_true_eq, ← h1]; exact e), h2]
        rfl
    · have a1 : atO (p :: kvs) k = atO kvs k := by
        unfold atO
        rw [List.find?_cons_of_neg (by simpa using e)]
      have a2 : atKey (x :: xs) k = atKey xs k := by
        unfold atKey
        rw [List.find?_cons_of_neg (by rw [← h1]; simpa using e)]
      rw [a1, a2]
      exact okv_at r
theorem okv_map {k : List Int} {v : V} {u : Value} (rv : RelV v u) : ∀ {kvs : List (List Int × Addr × V)} {xs : List (List Int × Addr × Value)}, OKV kvs xs → OKV (kvs.map fun p => if p.1 = k then (p.1, p.2.1, v) else p) (xs.map (putAt k u))
  | _, _, .nil => .nil
  | p :: kvs, x :: xs, .cons ⟨h1, h2, h3⟩ r => by
    refine .cons ?_ (okv_map rv r)
    unfold putAt
    dsimp only
    by_cases e : p.1 = k
    · rw [if_pos e, if_pos (h1.symm.trans e)]; exact ⟨h1, h2, rv⟩
    · rw [if_neg e, if_neg (fun z => e (h1.trans z))]; exact ⟨h1, h2, h3⟩
theorem okv_put {k : List Int} {q : Addr} {v : V} {u : Value} (rv : RelV v u) {kvs : List (List Int × Addr × V)} {xs : List (List Int × Addr × Value)} (r : OKV kvs xs) : OKV (putO kvs k q v) (storedH xs k q u) := by
  unfold putO storedH
  rcases okv_at (k := k) r with ⟨h1, h2⟩ | ⟨q', v', u', h1, h2, _⟩
  · rw [h1, h2]
    exact Paired.snoc r ⟨rfl, rfl, rv⟩
  · rw [h1, h2]
    exact okv_map rv r
theorem dto_empty {P : Program} {w : World} {H : Hp} (h : Heap) (hb : sysModules < h.objs.size) : ObjOk P w H (h.push { cls := .type "dict", data := .dict #[] }) h.objs.size (DTo h.objs.size []) :=
  dto_ok (beq_eq_false_iff_ne.mpr (Ne.symm (Nat.ne_of_lt hb))) (Nat.zero_le _) .nil (Heap.DictOfH.new h)
def tDNewO : TE := fun _ H Q => ∀ p, H p = none → Q (.ref p) (upd H p (DTo p []))
def tDisp1 (K : PySem.W.Frag) (tk tv : TE) : TE := fun σ H Q => ∀ p, H p = none → tk σ (upd H p (DTo p [])) fun x H1 => tv σ H1 fun y H2 => ∃ (b : Addr) (k : List Int), x = .ref b ∧ H2 p = some (DTo p []) ∧ SqT K H2 b (k.map V.int) ∧ Q (.ref p) (upd H2 p (DTo p [(k, b, y)]))
section
variable {X : Cx} {pos : Pos}
theorem pe_dnewO : PE X (.Dict [] [] pos) tDNewO := ⟨fun pins s σ H Q I h =>
  wpAny_Dict_empty ⟨.ref s.heap.objs.size, _, I.laid (a := s.heap.objs.size) (o := DTo s.heap.objs.size []) (t' := s.toks) (fun _ _ q => Heap.get?_push_of_some _ q) (Nat.le_refl _) (dto_empty s.heap I.big), rfl, h _ (I.hok.fresh (Nat.le_refl _))⟩⟩
theorem pe_disp1 {k v : Expr} {tk tv : TE} (hu : X.A.units < cLine) (hk : PE X k tk) (hv : PE X v tv) : PE X (.Dict [some k] [v] pos) (tDisp1 X.K tk tv) := by
  refine ⟨fun pins s σ H Q I q => ?_⟩
  have hn := I.hok.fresh (Nat.le_refl s.heap.objs.size)
  have I1 := I.laid (a := s.heap.objs.size) (o := DTo s.heap.objs.size []) (h' := s.heap.push { cls := .type "dict", data := .dict #[] }) (t' := s.toks) (fun _ _ q => Heap.get?_push_of_some _ q) (Nat.le_refl _) (dto_empty s.heap I.big)
  let QQ : List (V × V) → Hp → Prop := fun ps H2 => match ps with
    | [(x, y)] => ∃ (b : Addr) (k : List Int), x = .ref b ∧ H2 s.heap.objs.size = some (DTo s.heap.objs.size []) ∧ SqT X.K H2 b (k.map V.int) ∧ Q (.ref s.heap.objs.size) (upd H2 s.heap.objs.size (DTo s.heap.objs.size [(k, b, y)]))
    | _ => False
  refine wpAny_Dict_any rfl rfl (by simp) (by simp) (thn ((pps_cons (pos := pos) hk hv pps_nil).run pins _ σ _ QQ I1 (q _ hn)) fun ws s2 ⟨ps, H2, I2, rel, qq⟩ => ?_)
  cases rel with
  | nil => exact qq.elim
  | @cons xy w2 _ _ h t =>
    cases t with
    | cons _ _ => exact qq.elim
    | nil =>
      obtain ⟨x, y⟩ := xy
      obtain ⟨b, k, ex, eD, hb, q2⟩ := qq
      subst ex
      obtain ⟨hx, hy⟩ := h
      obtain ⟨u1, u2⟩ := w2
      obtain rfl : u1 = Value.ref b := hx
      obtain ⟨hd, z, xs, rl, dd⟩ := dto_of I2 (.inl eD) (fun p hp => nomatch hp)
      cases rl
      have c : CarriesH (tupleKind (intKind X.prog X.w)) s2.heap [(Value.ref b, u2)] [(k, b, u2)] := ⟨rfl, rfl, key_at I2 hb, trivial⟩
      show wpAny _ _ (storeAll _ _) _ _ _
      unfold storeAll
      refine wpAny_storeAllH (knd := tupleKind (intKind X.prog X.w)) hu _ _ _ _ _ c dd (by rw [sizeLine_eq]; simp) fun h' tk dd' hs => ?_
      have he : ∃ q, h'.get? s.heap.objs.size = some q := let ⟨q, _, _, hq, _⟩ := dd'; ⟨q, hq⟩
      exact ⟨.ref s.heap.objs.size, _, d_write I2 (by rw [eD]; exact True.intro) hs he (dto_ok hd (by rw [sizeLine_eq]; simp) (.cons ⟨rfl, rfl, hy⟩ .nil) dd'), rfl, q2⟩
end
def keyI : D → Option (List Int)
  | .tup l => asInts l
  | _ => none
theorem keyI_tup (k : List Int) : keyI (.tup (k.map D.int)) = some k := asInts_map k
theorem keyI_eq {d : D} {k : List Int} (e : keyI d = some k) : d = .tup (k.map D.int) := by
  unfold keyI at e
  split at e
  · rw [asInts_eq e]
  · cases e
def mDct0 : ME := fun ρ => .ok (.dct true [] []) ρ
def mDct1 (mk mv : ME) : ME := fun ρ => (mk ρ).bind fun k ρ1 => (mv ρ1).bind fun v ρ2 => match keyI k with
  | some _ => .ok (.dct true [k] [v]) ρ2
  | none => .bad
section
variable {X : Cx} {G : Gd} {O : List Nat} {W : WX} {pos : Pos} {ek ev : Expr} {mk mv : ME}
theorem df_dct0 : DF X G O W (.Dict [] [] pos) mDct0 := by
  refine pe_imp pe_dnewO fun σ H Q ⟨A, ms, ρ, R, q⟩ p hp => ?_
  exact q p _ (R.same (same_upd hp)) (R.grow hp (same_upd hp) upd_same) (Kp.same (same_upd hp)) hp (.dT upd_same ⟨(fun _ h => nomatch h), rfl⟩ .nil)
theorem rp_key {K : PySem.W.Frag} {A : Addr → Prop} {H : Hp} {y : V} {d : D} {k : List Int} (r : Rp K A H y d) (e : keyI d = some k) : ∃ q, y = .ref q ∧ SqTA K A H q (k.map V.int) := by
  rw [keyI_eq e] at r
  cases r with
  | tup h q =>
    rw [RpA.ints q] at h
    exact ⟨_, rfl, h⟩
theorem df_dct1 (hu : X.A.units < cLine) (hk : DE X G O W ek mk) (hv : DE X G O W ev mv) : DF X G O W (.Dict [some ek] [ev] pos) (mDct1 mk mv) := by
  refine pe_imp (pe_disp1 hu hk hv) fun σ H Q ⟨A, ms, ρ, R, q⟩ p hp => ?_
  have s0 : Same H (upd H p (DTo p [])) := same_upd hp
  have R0 := R.grow (o := DTo p []) hp s0 upd_same
  unfold mDct1 at q
  refine ⟨fun a => A a ∨ a = p, ms, ρ, R0, ?_⟩
  have lessR : ∀ {σ' : L2.St} {H' : Hp} {ρ' : En}, RelS X.K G O (fun a => A a ∨ a = p) ms σ' H' ρ' → RelS X.K G O A ms σ' H' ρ' := fun R' => R'.less (fun a z => .inl z) R.sub fun i p' m e => R.inA i p' m e
  have kpp : ∀ {H' : Hp}, Kp O ms (upd H p (DTo p [])) H' → H' p = some (DTo p []) ∧ Kp O ms H H' := fun {H'} k => by
    refine ⟨k p _ upd_same fun i m z => ?_, (Kp.same s0).trans k⟩
    obtain ⟨o, e, _⟩ := R.trk p (R.inA i p m z)
    rw [hp] at e; cases e
  have xl : ∀ {H' : Hp} {x : Xn} {dx : Option Addr}, XRel X.K (fun a => A a ∨ a = p) H' x dx → XRel X.K A H' x dx := fun {H' x dx} h => by
    rcases h with h | ⟨h1, d, fs, h2, h3, h4⟩
    · exact .inl h
    · exact .inr ⟨h1, d, fs, h2, h3, h4.tr fun a o e n => ⟨e, fun z => n (.inl z)⟩⟩
  cases hm : mk ρ with
  | bad => rw [hm] at q; exact q.elim
  | ex x ρ1 =>
    rw [hm] at q
    exact fun dx H' R' k xr => q dx H' (lessR R') (kpp k).2 (xl xr)
  | ok kd ρ1 =>
    rw [hm] at q
    intro x H1 R1 k1 r1
    obtain ⟨p1, kp1⟩ := kpp k1
    refine ⟨fun a => A a ∨ a = p, ms, ρ1, R1, ?_⟩
    have q1 : FPost X.K G O W A ms σ H Q ((mv ρ1).bind fun v ρ2 => match keyI kd with
      | some _ => .ok (.dct true [kd] [v]) ρ2
      | none => .bad) := q
    cases hm2 : mv ρ1 with
    | bad => rw [hm2] at q1; exact q1.elim
    | ex x ρ2 =>
      rw [hm2] at q1
      exact fun dx H' R' k xr => q1 dx H' (lessR R') (kp1.trans k) (xl xr)
    | ok vd ρ2 =>
      rw [hm2] at q1
      intro y H2 R2 k2 r2
      have q2 : FPost X.K G O W A ms σ H Q (match keyI kd with
        | some _ => .ok (.dct true [kd] [vd]) ρ2
        | none => .bad) := q1
      have p2 : H2 p = some (DTo p []) := k2 p _ p1 fun i m z => by
        obtain ⟨o, e, _⟩ := R.trk p (R.inA i p m z)
        rw [hp] at e; cases e
      have kp2 := kp1.trans k2
      cases hk : keyI kd with
      | none => rw [hk] at q2; exact q2.elim
      | some kk =>
        rw [hk] at q2
        have t2 : Tr (fun a => A a ∨ a = p) (fun a => A a ∨ a = p) H1 H2 := R1.kt k2
        obtain ⟨b, rfl, hb⟩ := rp_key (r1.tr t2) hk
        refine ⟨b, kk, rfl, p2, hb.sq, ?_⟩
        have t3 : Tr (fun a => A a ∨ a = p) (fun a => A a ∨ a = p) H2 (upd H2 p (DTo p [(kk, b, y)])) := fun a o e n => ⟨upd_out a o e fun z => n (.inr z), n⟩
        have R3 : RelS X.K G O (fun a => A a ∨ a = p) ms σ (upd H2 p (DTo p [(kk, b, y)])) ρ2 := R2.grew (fun i m z => by
          obtain ⟨o, e, _⟩ := R.trk p (R.inA i p m z)
          rw [hp] at e; cases e) (fun o e n => by
          have := R.keep p o e n
          rw [hp] at this; cases this)
        refine q2 p _ (lessR R3) R3 (fun a o e n => upd_out a o (kp2 a o e n) fun z => by rw [z, hp] at e; cases e) hp (.dT upd_same ⟨fun p' hp' => ?_, ?_⟩ (.cons ((r2).tr t3) .nil))
        · rw [List.mem_singleton.mp hp']
          exact hb.tr t3
        · rw [keyI_eq hk]; rfl
def rSetO (K : PySem.W.Frag) : V → V → V → Hp → (Hp → Prop) → Prop := fun o i v H Q => ∃ (a : Addr) (kvs : List (List Int × Addr × V)) (q : Addr) (k : List Int), o = .ref a ∧ i = .ref q ∧ H a = some (DTo a kvs) ∧ (∀ p ∈ kvs, SqT K H p.2.1 (p.1.map V.int)) ∧ SqT K H q (k.map V.int) ∧ kvs.length < sizeLine ∧ Q (upd H a (DTo a (putO kvs k q v)))
theorem set_dto (hu : X.A.units + 1 < cLine) : PSet X (rSetO X.K) := by
  intro pins s σ H o i v ov iv u Q I ro ri rv h
  obtain ⟨a, kvs, q, k, rfl, rfl, ha, hks, hq, hl, qq⟩ := h
  obtain rfl : ov = Value.ref a := ro
  obtain rfl : iv = Value.ref q := ri
  obtain ⟨hd, z, xs, rel, dd⟩ := dto_of I (.inl ha) hks
  have l1 : kvs.length = xs.length := Paired.length rel
  refine wpAny_setItem_heap (hsz := by rw [← l1]; exact z) (tupleKind_room_in1 hu) (key_at I hq) dd fun h' dd' hs => ⟨_, d_write I (by rw [ha]; exact True.intro) hs (let ⟨o, _, _, ho, _⟩ := dd'; ⟨o, ho⟩) (dto_ok hd (by have := putO_len kvs k q v; omega) (okv_put rv rel) dd'), qq⟩
def gDPut : D → D → D → Option D
  | .dct true ks vs, k, d => match keyI k with
    | some _ => if ks.length < sizeLine then some (.dct true (putV keyI ks vs k d).1 (putV keyI ks vs k d).2) else none
    | none => none
  | _, _, _ => none
def isDT : D → Bool
  | .dct true _ _ => true
  | _ => false
def mgDPut (j : Nat) (mi : ME) : MG := fun d ρ => match getO ρ j with
  | some c0 => if isDT c0 = true then (mi ρ).bind fun i ρ1 => match getO ρ1 j with
    | some c => match gDPut c i d with
      | some c' => .ok () (ρ1.set j (some c'))
      | none => .bad
    | none => .bad else .bad
  | _ => .bad
theorem put_rel {K : PySem.W.Frag} {A : Addr → Prop} {H : Hp} {kvs : List (List Int × Addr × V)} {ks vs : List D} {kd d : D} {k : List Int} {q : Addr} {v : V} (e : KyR K A H kvs ks) (r : RpA K A H (kvs.map (·.2.2)) vs) (hk : keyI kd = some k) (hq : SqTA K A H q (k.map V.int)) (rv : Rp K A H v d) :
    KyR K A H (putO kvs k q v) (putV keyI ks vs kd d).1 ∧ RpA K A H ((putO kvs k q v).map (·.2.2)) (putV keyI ks vs kd d).2 := by
  obtain ⟨e1, e2⟩ := e
  have an : ks.any (fun x => decide (keyI x = keyI kd)) = (atO kvs k).isSome := by
    rw [hk, e2, List.any_map]
    have : ∀ l : List (List Int × Addr × V), (l.any ((fun x => decide (keyI x = some k)) ∘ fun p => D.tup (p.1.map D.int))) = (atO l k).isSome := by
      intro l
      induction l with
      | nil => rfl
      | cons p l ih =>
        rw [List.any_cons, ih]
        unfold atO
        by_cases h : p.1 = k
        · rw [List.find?_cons_of_pos (by rw [decide_eq_true_eq]; exact h)]
          simp [keyI_tup, h]
        · rw [List.find?_cons_of_neg (by simpa using h)]
          have : decide (keyI (D.tup (p.1.map D.int)) = some k) = false := by
            rw [keyI_tup, decide_eq_false_iff_not]
            exact fun z => h (Option.some.inj z)
          simp [Function.comp, this]
    exact this kvs
  unfold putV putO
  rw [an]
  by_cases h : (atO kvs k).isSome = true
  · rw [if_pos h, if_pos h]
    have go : ∀ (l : List (List Int × Addr × V)) (ws : List D), RpA K A H (l.map (·.2.2)) ws → RpA K A H ((l.map fun p => if p.1 = k then (p.1, p.2.1, v) else p).map (·.2.2)) (((l.map fun p => D.tup (p.1.map D.int)).zip ws).map fun p => if keyI p.1 = some k then d else p.2) := by
      intro l
      induction l with
      | nil => intro ws r; cases r; exact .nil
      | cons p l ih =>
        intro ws r
        rw [List.map_cons] at r
        cases r with
        | cons r1 r2 =>
          rw [List.map_cons, List.map_cons, List.map_cons, List.zip_cons_cons, List.map_cons]
          refine .cons ?_ (ih _ r2)
          dsimp only
          rw [keyI_tup]
          by_cases h : p.1 = k
          · rw [if_pos h, if_pos (congrArg some h)]; exact rv
          · rw [if_neg h, if_neg (fun z => h (Option.some.inj z))]; exact r1
    refine ⟨⟨fun p hp => ?_, ?_⟩, ?_⟩
    · obtain ⟨p0, hp0, rfl⟩ := List.mem_map.mp hp
      by_cases h : p0.1 = k
      · rw [if_pos h]; exact e1 p0 hp0
      · rw [if_neg h]; exact e1 p0 hp0
    · rw [e2, List.map_map]
      refine List.map_congr_left fun p _ => ?_
      show _ = D.tup ((if p.1 = k then (p.1, p.2.1, v) else p).1.map D.int)
      by_cases h : p.1 = k
      · rw [if_pos h]
      · rw [if_neg h]
    · rw [hk, e2]
      exact go kvs vs r
  · rw [if_neg h, if_neg h]
    refine ⟨⟨fun p hp => ?_, ?_⟩, ?_⟩
    · rcases List.mem_append.mp hp with z | z
      · exact e1 p z
      · rw [List.mem_singleton.mp z]; exact hq
    · rw [List.map_append, e2, keyI_eq hk]; rfl
    · rw [List.map_append]
      exact r.app (.cons rv .nil)
theorem dg_dput {j : Nat} {i : Expr} {mi : ME} {y : Str} {py : Pos} {vs : List Nat} (hu : X.A.units + 1 < cLine) (hj : O.contains j = true) (hy : PE X (.Name y py) (tVar j)) (hi : DE X G O W0 i mi)
    (ha : ∀ v, assign (.Subscript (.Name y py) i pos) X.env v = (do
      let ov ← holding [v] (eval (.Name y py) X.env)
      let iv ← holding [v, ov] (eval i X.env)
      standAt pos
      holding [v, ov, iv] (setItem ov iv v)
      release [v, ov, iv] []) := by intro _; rfl) : DG X G O vs (.Subscript (.Name y py) i pos) (mgDPut j mi) := by
  refine pg_imp (pg_sub hy hi (set_dto hu) ha) fun v σ H Q ⟨A, ms, ρ, d, R, r, q⟩ => ?_
  have hj' := List.contains_iff_mem.mp hj
  unfold mgDPut at q
  split at q
  · rename_i c hc
    obtain ⟨p, hp, hv, _⟩ := R.ow j _ (getO_some hc) hj'
    split at q
    · refine ⟨_, hv, A, ms, ρ, R, ?_⟩
      cases hm : mi ρ with
      | bad => rw [hm] at q; exact q.elim
      | ex y ρ1 => rw [hm] at q; exact q.elim
      | ok iv ρ1 =>
        rw [hm] at q
        intro iV H1 R1 k1 r1
        have q1 : GPost X.K G O vs A ms σ H Q (match getO ρ1 j with
          | some c => match gDPut c iv d with
            | some c' => .ok () (ρ1.set j (some c'))
            | none => .bad
          | none => .bad) := q
        split at q1
        · rename_i c1 hc1
          split at q1
          · rename_i c2 hset
            cases c1 with
            | dct t ks ws =>
              cases t with
              | false => cases hset
              | true =>
                replace hset : (match keyI iv with
                  | some _ => if ks.length < sizeLine then some (D.dct true (putV keyI ks ws iv d).1 (putV keyI ks ws iv d).2) else none
                  | none => none) = some c2 := hset
                cases hk : keyI iv with
                | none => rw [hk] at hset; cases hset
                | some kk =>
                  simp only [hk] at hset
                  split at hset
                  · rename_i hl
                    cases hset
                    have b1 := getO_some hc1
                    obtain ⟨p', hp', _, oj⟩ := R1.ow j _ b1 hj'
                    rw [hp] at hp'
                    cases hp'
                    have aj := R.inA j p hj' hp
                    cases oj with
                    | @dT kvs _ _ hH hky hrr =>
                      obtain ⟨b, rfl, hb⟩ := rp_key r1 hk
                      have lk : ks.length = kvs.length := by rw [hky.2, List.length_map]
                      refine ⟨_, kvs, b, kk, rfl, rfl, hH, fun p' hp' => (hky.1 p' hp').sq, hb.sq, by omega, ?_⟩
                      have t3 : Tr A A H1 (upd H1 p (DTo p (putO kvs kk b v))) := fun a o e n => ⟨upd_out a o e fun z => n (z ▸ aj), n⟩
                      obtain ⟨w1, w2⟩ := put_rel hky hrr hk hb (r.tr (R.kt k1))
                      exact q1 σ _ SlEq.refl (R1.setOwn hj' b1 hp upd_out (.dT upd_same (w1.tr t3) (w2.tr t3))) (k1.trans (Kp.own hj' hp upd_out))
                  · cases hset
            | _ => cases hset
          · exact q1.elim
        · exact q1.elim
    · exact q.elim
  · exact q.elim
end
end DL
namespace DL
open L2 PySem PySem.Spec PyProof.Rows
def ItO (d : Addr) (o : Obj) (kvs : List (List Int × Addr × V)) : It :=
  ⟨fun i H => H d = some (.frz o (DTo d kvs)) ∧ i < kvs.length, fun i H x H' => ∃ (T : Addr) (p : List Int × Addr × V), kvs[i]? = some p ∧ x = .ref T ∧ H T = none ∧ H' = upd H T (.tup [.ref p.2.1, p.2.2]), fun i H => H d = some (.frz o (DTo d kvs)) ∧ kvs.length ≤ i⟩
section
variable {X : Cx} {pins : List (Addr × Obj)} {σ : L2.St} {H : Hp} {s : Shared} {d : Addr} {o : Obj} {kvs : List (List Int × Addr × V)}
theorem frzO (I : Inv X pins σ H s) (h : H d = some (.frz o (DTo d kvs))) : (d == sysModules) = false ∧ s.heap.get? d = some o ∧ o.ExactDict ∧ ∃ (es : Array DictEntry) (ep : Nat), o.data = .dict es ep ∧ es.size = kvs.length ∧
    ∀ (i : Nat) (hi : i < es.size) (p : List Int × Addr × V), kvs[i]? = some p → es[i].key = .ref p.2.1 ∧ RelV p.2.2 es[i].val := by
  obtain ⟨hd, x⟩ := I.hok d _ h
  obtain ⟨hs, z, xs, rel, o', es, ep, ho, hx, hdt, he, _⟩ := x.1
  rw [hd] at ho
  cases ho
  have l1 : es.size = xs.length := by
    have := congrArg List.length he
    simpa using this
  have l2 : kvs.length = xs.length := Paired.length rel
  refine ⟨hs, hd, hx, es, ep, hdt, by omega, fun i hi p e => ?_⟩
  obtain ⟨b, hb, e1, e2, e3⟩ := paired_get rel e
  have q : es.toList[i]? = (xs.map EntT)[i]? := by rw [he]
  rw [Array.getElem?_toList, Array.getElem?_eq_getElem hi, List.getElem?_map, hb, Option.map_some] at q
  have q' := Option.some.inj q
  rw [q']
  exact ⟨by rw [e2]; rfl, e3⟩
end
section
variable {P : Program} {w : World} {K : PySem.W.Frag} {d : Addr} {o : Obj} {es : Array DictEntry} {ep : Nat}
theorem turn_itemsO {kvs : List (List Int × Addr × V)} {elts : List Expr} {kk : Nat} {tpos : Pos} (it : Addr) (hod : o.data = .dict es ep) :
    Turn P w K (.Tuple elts kk tpos) (ItO d o kvs) [it] it (fun i h => ∃ ok ov, IsItemIter h it d i kvs.length ep ok ov) where
  mem := by simp
  obj := fun i h st b hb => by
    have e : b = it := by simpa using hb
    subst e
    obtain ⟨ok, ov, e⟩ := st
    exact ⟨_, e, fun v z => nomatch z⟩
  keep := fun i h h' st k => let ⟨ok, ov, e⟩ := st; ⟨ok, ov, k it (by simp) _ e⟩
  item := by
    intro X hP hw hK hc i pins s σ H E I hf st hg
    subst hP hw hK
    obtain ⟨hd, hi⟩ := hg
    obtain ⟨hs, hgd, hx, es', ep', hdt, hsz, ent⟩ := frzO I hd
    obtain ⟨rfl, rfl⟩ := dict_ep hod hdt
    obtain ⟨p, hkv⟩ : ∃ p, kvs[i]? = some p := ⟨kvs[i], List.getElem?_eq_getElem hi⟩
    have hie : i < es'.size := by omega
    obtain ⟨ek, ru⟩ := ent i hie p hkv
    obtain ⟨ok, ov, he⟩ := st
    rw [← hsz] at he
    have hlt : it < s.heap.objs.size := Heap.lt_size he
    refine wpAny_pyNext_items_item_raw he ⟨o, hgd, hx, hod⟩ hie fun h' ho hT hz hk => ?_
    refine ⟨_, rfl, wpAny_letOwnedTupleGo_items (s := { s with heap := h' }) ho fun h'' he' sb => ?_⟩
    have hT2 : h''.get? s.heap.objs.size = some { cls := .type "tuple", data := .seq #[es'[i].key, es'[i].val] } := (sb.2 _ (Nat.ne_of_gt hlt)).trans hT
    have new : ObjOk X.prog X.w (upd H s.heap.objs.size (.tup [.ref p.2.1, p.2.2])) h'' s.heap.objs.size (.tup [.ref p.2.1, p.2.2]) :=
      ⟨by show 2 ≤ sizeLine; decide, [es'[i].key, es'[i].val], .cons ek (.cons ru .nil), ⟨_, hT2, rfl, _, rfl⟩⟩
    have I1 : Inv X pins σ (upd H s.heap.objs.size (.tup [.ref p.2.1, p.2.2])) { s with heap := h'' } :=
      I.turnedNew (t' := s.toks) (ch := [it]) (fun b ob hb e => (sb.2 b (by simpa using hb)).trans (hk b ob (by simpa using hb) e)) hf (Nat.le_refl _) new
    refine ⟨.ref s.heap.objs.size, _, I1, rfl, ⟨_, p, hkv, rfl, I.hok.fresh (Nat.le_refl _), rfl⟩, ⟨es'[i].key, es'[i].val, ?_⟩, fun b hb => ?_⟩
    · rw [← hsz]; exact he'
    · have e : b = it := by simpa using hb
      rw [e, upd_ne (Nat.ne_of_lt hlt)]
      exact (hf it (by simp)).1
  done := by
    intro X hP hw hK hc i pins s σ H E I hf st hg
    subst hP hw hK
    obtain ⟨hd, hi⟩ := hg
    obtain ⟨f0, f1, f2, f3, f4, f5⟩ := hf it (by simp)
    obtain ⟨hs, hgd, hx, es', ep', hdt, hsz, ent⟩ := frzO I hd
    obtain ⟨rfl, rfl⟩ := dict_ep hod hdt
    obtain ⟨ok, ov, he⟩ := st
    rw [← hsz] at he
    exact wpAny_pyNext_items_end_raw (I.ok.hd hc) he ⟨o, hgd, hx, hod⟩ (by omega) fun h' eb => ⟨rfl, I.turned (t' := s.toks) (fun b ob hb e => eb b ob hb e) f0 f1 f3 f4 f5⟩
  self := fun A i s Q E st h => let ⟨_, _, e⟩ := st; PySem.W.kcp_self e h
end
def iItemsO (td : TE) : TI := fun σ H R => td σ H fun x H1 => ∃ d o kvs, x = .ref d ∧ H1 d = some (.frz o (DTo d kvs)) ∧ R (ItO d o kvs) H1
section
variable {X : Cx} {e : Expr} {td : TE} {apos cpos : Pos}
theorem pi_itemsO {elts : List Expr} {kk : Nat} {tpos : Pos} (he : PE X e td) (hbase : attributeBase e "items" X.env (eval e X.env) = eval e X.env := by rfl) (hline : (apos.endLine == cpos.line) = true := by rfl) :
    PI X (.Tuple elts kk tpos) (.Call (.Attribute e "items" apos) [] [] cpos) (iItemsO td) := by
  refine ⟨fun pins s σ H R I h => ?_⟩
  refine wpAny_Call_method (T := "dict") (id := "dict.items") hbase rfl hline F.plainAttrs_dict F.slot_dict_items F.type_dict_items (thn (he.run pins s σ H _ I h) fun u s1 ⟨x, H1, I1, rx, d, o, kvs, ex, hd, q⟩ => ?_)
  subst ex
  obtain rfl : u = Value.ref d := rx
  obtain ⟨hs, hgd, hx, es, ep, hdt, hsz, ent⟩ := frzO I1 hd
  have raw : s1.heap.DictRaw d es ep := ⟨o, hgd, hx, hdt⟩
  refine ⟨raw.typeIs, ?_, ?_⟩
  · intro a' e'
    cases e'
    exact ⟨o, hgd, hx.2.1⟩
  · have I2 : Inv X pins σ H1 { s1 with heap := s1.heap.push { cls := .type "dict_items", data := .fields #[.ref d] } } := I1.kept (t' := s1.toks) fun b ob q => Heap.get?_push_of_some _ q
    have fin : wpAny (model X.prog X.w) X.A (pyIter (.ref s1.heap.objs.size)) (PIE X pins σ (.Tuple elts kk tpos) R) X.xe { s1 with heap := s1.heap.push { cls := .type "dict_items", data := .fields #[.ref d] } } := by
      refine wpAny_pyIter_items_raw (d := d) (es := es) (ep := ep) ⟨_, Heap.get?_push_size _ rfl, rfl, rfl⟩ (raw.push _) (pi_one (tk := s1.toks) I2 _ (turn_itemsO _ hdt) ⟨.none, .none, ?_⟩ q)
      rw [← hsz]
      exact Heap.get?_push_size _ rfl
    show wpAny _ _ (callWith cpos (.builtin "dict.items") [.ref d] [] []) _ X.xe s1
    exact method_meetsIn F.slot_dict_items F.entry_dict_items rfl (PySem.evalArgs_none ⟨rfl, raw.typeIs, F.args_dict_items_1 _, _, meets_dict_items_raw d hs, ⟨es, ep, raw⟩, fin⟩)
end
section
variable {K : PySem.W.Frag} {A : Addr → Prop} {H : Hp} {d : Addr} {od : Obj} {φ : Heap → Prop}
theorem rd_lock (hd : H d = some (.ext φ)) {a : Addr} {w : HO} (h : Rd H a w) : Rd (upd H d (.frz od (.ext φ))) a w := by
  by_cases e : a = d
  · subst e
    rcases h with h | ⟨o, h⟩
    · rw [hd] at h; cases h
      exact .inr ⟨od, upd_same⟩
    · rw [hd] at h; cases h
  · rcases h with h | ⟨o, h⟩
    · exact .inl (by rw [upd_ne e]; exact h)
    · exact .inr ⟨o, by rw [upd_ne e]; exact h⟩
theorem pl_lock (hd : H d = some (.ext φ)) {a : Addr} {w : HO} (h : H a = some w) (n : ∀ ψ, w ≠ .ext ψ) : (upd H d (.frz od (.ext φ))) a = some w := by
  rw [upd_ne fun z => by rw [z, hd] at h; cases h; exact n _ rfl]
  exact h
theorem SqTA.lock (hd : H d = some (.ext φ)) {a : Addr} {xs : List V} (h : SqTA K A H a xs) : SqTA K A (upd H d (.frz od (.ext φ))) a xs := h.imp (fun z => ⟨rd_lock hd z.1, z.2⟩) id
theorem SqLA.lock (hd : H d = some (.ext φ)) {a : Addr} {xs : List V} (h : SqLA K A H a xs) : SqLA K A (upd H d (.frz od (.ext φ))) a xs := h.imp (fun z => ⟨rd_lock hd z.1, z.2⟩) id
theorem KyR.lock (hd : H d = some (.ext φ)) {kvs : List (List Int × Addr × V)} {ks : List D} (h : KyR K A H kvs ks) : KyR K A (upd H d (.frz od (.ext φ))) kvs ks := ⟨fun p hp => (h.1 p hp).lock hd, h.2⟩
mutual
theorem Rp.lock (hd : H d = some (.ext φ)) : ∀ {v : V} {x : D}, Rp K A H v x → Rp K A (upd H d (.frz od (.ext φ))) v x
  | _, _, .non => .non
  | _, _, .bl b => .bl b
  | _, _, .int i => .int i
  | _, _, .str x => .str x
  | _, _, .tup h q => .tup (h.lock hd) (RpA.lock hd q)
  | _, _, .lst h n q => .lst (pl_lock hd h fun _ z => nomatch z) n (RpA.lock hd q)
  | _, _, .scr h q => .scr (h.lock hd) (RpA.lock hd q)
  | _, _, .fn x => .fn x
  | _, _, .obj h n q => .obj (pl_lock hd h fun _ z => nomatch z) n (RpF.lock hd q)
  | _, _, .exn h n z f => .exn (rd_lock hd h) n z f
  | _, _, .dK h n e q => .dK (rd_lock hd h) n e (RpA.lock hd q)
  | _, _, .dT h n e q => .dT (rd_lock hd h) n (e.lock hd) (RpA.lock hd q)
theorem RpA.lock (hd : H d = some (.ext φ)) : ∀ {v : List V} {x : List D}, RpA K A H v x → RpA K A (upd H d (.frz od (.ext φ))) v x
  | _, _, .nil => .nil
  | _, _, .cons h q => .cons (Rp.lock hd h) (RpA.lock hd q)
theorem RpF.lock (hd : H d = some (.ext φ)) : ∀ {v : List (Str × V)} {x : List (Str × D)}, RpF K A H v x → RpF K A (upd H d (.frz od (.ext φ))) v x
  | _, _, .nil => .nil
  | _, _, .cons h q => .cons (Rp.lock hd h) (RpF.lock hd q)
end
theorem Own.lock (hd : H d = some (.ext φ)) {p : Addr} {x : D} (np : p ≠ d) (h : Own K A H p x) : Own K A (upd H d (.frz od (.ext φ))) p x := by
  cases h with
  | lst e q => exact .lst (by rw [upd_ne np]; exact e) (q.lock hd)
  | obj e q => exact .obj (by rw [upd_ne np]; exact e) (q.lock hd)
  | dK e k q => exact .dK (by rw [upd_ne np]; exact e) k (q.lock hd)
  | dT e k q => exact .dT (by rw [upd_ne np]; exact e) (k.lock hd) (q.lock hd)
theorem rd_unlock (hd : H d = some (.frz od (.ext φ))) {a : Addr} {w : HO} (h : Rd H a w) (nf : ∀ o u, w ≠ .frz o u) : Rd (upd H d (.ext φ)) a w := by
  by_cases e : a = d
  · subst e
    rcases h with h | ⟨o, h⟩
    · rw [hd] at h; cases h
      exact absurd rfl (nf _ _)
    · rw [hd] at h; cases h
      exact .inl upd_same
  · rcases h with h | ⟨o, h⟩
    · exact .inl (by rw [upd_ne e]; exact h)
    · exact .inr ⟨o, by rw [upd_ne e]; exact h⟩
theorem pl_unlock (hd : H d = some (.frz od (.ext φ))) {a : Addr} {w : HO} (h : H a = some w) (n : ∀ o u, w ≠ .frz o u) : (upd H d (.ext φ)) a = some w := by
  rw [upd_ne fun z => by rw [z, hd] at h; cases h; exact n _ _ rfl]
  exact h
theorem SqTA.unlock (hd : H d = some (.frz od (.ext φ))) {a : Addr} {xs : List V} (h : SqTA K A H a xs) : SqTA K A (upd H d (.ext φ)) a xs := h.imp (fun z => ⟨rd_unlock hd z.1 (fun _ _ w => nomatch w), z.2⟩) id
theorem SqLA.unlock (hd : H d = some (.frz od (.ext φ))) {a : Addr} {xs : List V} (h : SqLA K A H a xs) : SqLA K A (upd H d (.ext φ)) a xs := h.imp (fun z => ⟨rd_unlock hd z.1 (fun _ _ w => nomatch w), z.2⟩) id
theorem KyR.unlock (hd : H d = some (.frz od (.ext φ))) {kvs : List (List Int × Addr × V)} {ks : List D} (h : KyR K A H kvs ks) : KyR K A (upd H d (.ext φ)) kvs ks := ⟨fun p hp => (h.1 p hp).unlock hd, h.2⟩
mutual
theorem Rp.unlock (hd : H d = some (.frz od (.ext φ))) : ∀ {v : V} {x : D}, Rp K A H v x → Rp K A (upd H d (.ext φ)) v x
  | _, _, .non => .non
  | _, _, .bl b => .bl b
  | _, _, .int i => .int i
  | _, _, .str x => .str x
  | _, _, .tup h q => .tup (h.unlock hd) (RpA.unlock hd q)
  | _, _, .lst h n q => .lst (pl_unlock hd h fun _ _ z => nomatch z) n (RpA.unlock hd q)
  | _, _, .scr h q => .scr (h.unlock hd) (RpA.unlock hd q)
  | _, _, .fn x => .fn x
  | _, _, .obj h n q => .obj (pl_unlock hd h fun _ _ z => nomatch z) n (RpF.unlock hd q)
  | _, _, .exn h n z f => .exn (rd_unlock hd h fun _ _ w => nomatch w) n z f
  | _, _, .dK h n e q => .dK (rd_unlock hd h fun _ _ w => nomatch w) n e (RpA.unlock hd q)
  | _, _, .dT h n e q => .dT (rd_unlock hd h fun _ _ w => nomatch w) n (e.unlock hd) (RpA.unlock hd q)
theorem RpA.unlock (hd : H d = some (.frz od (.ext φ))) : ∀ {v : List V} {x : List D}, RpA K A H v x → RpA K A (upd H d (.ext φ)) v x
  | _, _, .nil => .nil
  | _, _, .cons h q => .cons (Rp.unlock hd h) (RpA.unlock hd q)
theorem RpF.unlock (hd : H d = some (.frz od (.ext φ))) : ∀ {v : List (Str × V)} {x : List (Str × D)}, RpF K A H v x → RpF K A (upd H d (.ext φ)) v x
  | _, _, .nil => .nil
  | _, _, .cons h q => .cons (Rp.unlock hd h) (RpF.unlock hd q)
end
theorem Own.unlock (hd : H d = some (.frz od (.ext φ))) {p : Addr} {x : D} (h : Own K A H p x) : Own K A (upd H d (.ext φ)) p x := by
  cases h with
  | lst e q => exact .lst (pl_unlock hd e fun _ _ z => nomatch z) (q.unlock hd)
  | obj e q => exact .obj (pl_unlock hd e fun _ _ z => nomatch z) (q.unlock hd)
  | dK e k q => exact .dK (pl_unlock hd e fun _ _ z => nomatch z) k (q.unlock hd)
  | dT e k q => exact .dT (pl_unlock hd e fun _ _ z => nomatch z) (k.unlock hd) (q.unlock hd)
end
def Gd.lockd (G : Gd) (d : Addr) (u : HO) : Gd := { A0 := G.A0, H0 := fun b => if b = d then some u else G.H0 b, io := G.io, px := G.px }
section
variable {K : PySem.W.Frag} {G : Gd} {O : List Nat} {A : Addr → Prop} {ms : Nat → Option Addr} {σ : L2.St} {H : Hp} {ρ : En} {d : Addr} {od : Obj} {φ : Heap → Prop}
theorem lockd_ne {u : HO} {a : Addr} (h : a ≠ d) : (G.lockd d u).H0 a = G.H0 a := if_neg h
theorem lockd_at {u : HO} : (G.lockd d u).H0 d = some u := if_pos rfl
theorem RelS.lock (R : RelS K G O A ms σ H ρ) (hd : H d = some (.ext φ)) (nd : ¬ A d) : RelS K (G.lockd d (.frz od (.ext φ))) O A ms σ (upd H d (.frz od (.ext φ))) ρ where
  sub := R.sub
  trk0 := fun a z => by
    obtain ⟨o, e⟩ := R.trk0 a z
    by_cases h : a = d
    · rw [h]; exact ⟨_, lockd_at⟩
    · exact ⟨o, (lockd_ne h).trans e⟩
  trk := fun a z => by
    obtain ⟨o, e, n⟩ := R.trk a z
    have h : a ≠ d := fun w => by subst w; exact nd z
    exact ⟨o, by rw [upd_ne h]; exact e, n⟩
  keep := fun a o e n => by
    by_cases h : a = d
    · subst h
      rw [lockd_at] at e; cases e
      exact upd_same
    · rw [lockd_ne h] at e
      rw [upd_ne h]
      exact R.keep a o e n
  len := R.len
  fz := fun i x e n => let ⟨v, e1, q⟩ := R.fz i x e n; ⟨v, e1, q.lock hd⟩
  ow := fun i x e n => let ⟨p, e0, e1, q⟩ := R.ow i x e n; ⟨p, e0, e1, q.lock hd fun z => nd (z ▸ R.inA i p n e0)⟩
  inA := R.inA
  ok := fun i p m e => by
    rcases R.ok i p m e with w | ⟨w1, w2⟩
    · exact .inl w
    · have h : p ≠ d := fun z => by subst z; exact nd (R.inA i p m e)
      exact .inr ⟨w1, (lockd_ne h).trans w2⟩
  dist := R.dist
  px := R.px
  io := R.io
theorem RelS.unlock {A' : Addr → Prop} {ms' : Nat → Option Addr} {σ' : L2.St} {H' : Hp} {ρ' : En} (R : RelS K (G.lockd d (.frz od (.ext φ))) O A' ms' σ' H' ρ') (hd : H' d = some (.frz od (.ext φ))) (g0 : ∀ o, G.H0 d = some o → G.io ≠ some d → o = .ext φ) (nio : G.io ≠ some d) (t0 : ∀ a, G.A0 a → ∃ o, G.H0 a = some o) :
    RelS K G O A' ms' σ' (upd H' d (.ext φ)) ρ' where
  sub := R.sub
  trk0 := t0
  trk := fun a z => by
    by_cases h : a = d
    · rw [h]; exact ⟨_, upd_same, fun _ w => nomatch w⟩
    · obtain ⟨o, e, n⟩ := R.trk a z
      exact ⟨o, by rw [upd_ne h]; exact e, n⟩
  keep := fun a o e n => by
    by_cases h : a = d
    · subst h
      rw [g0 o e n]; exact upd_same
    · rw [upd_ne h]
      exact R.keep a o ((lockd_ne h).trans e) n
  len := R.len
  fz := fun i x e n => let ⟨v, e1, q⟩ := R.fz i x e n; ⟨v, e1, q.unlock hd⟩
  ow := fun i x e n => let ⟨p, e0, e1, q⟩ := R.ow i x e n; ⟨p, e0, e1, q.unlock hd⟩
  inA := R.inA
  ok := fun i p m e => by
    rcases R.ok i p m e with w | ⟨w1, w2⟩
    · exact .inl w
    · refine .inr ⟨w1, ?_⟩
      by_cases h : p = d
      · subst h
        rw [lockd_at] at w2; cases w2
      · exact (lockd_ne h).symm.trans w2
  dist := R.dist
  px := R.px
  io := R.io
theorem retG_unlock {fr : Bool} {v : V} {z o : D} (h : RetG K (G.lockd d (.frz od (.ext φ))) fr v H z o) (hd : H d = some (.frz od (.ext φ))) (g0 : ∀ o, G.H0 d = some o → G.io ≠ some d → o = .ext φ) (nio : G.io ≠ some d) : RetG K G fr v (upd H d (.ext φ)) z o := by
  obtain ⟨h1, h2⟩ := h
  refine ⟨fun a o' e n => ?_, ?_⟩
  · by_cases h : a = d
    · subst h
      rw [g0 o' e n]; exact upd_same
    · rw [upd_ne h]
      exact h1 a o' ((lockd_ne h).trans e) n
  · unfold RetR at h2 ⊢
    cases fr with
    | false =>
      simp only [Bool.false_eq_true, if_false] at h2 ⊢
      exact ⟨h2.1.unlock hd, fun q e => (h2.2 q e).unlock hd⟩
    | true =>
      simp only [if_true] at h2 ⊢
      obtain ⟨r, e1, e2, e3, e4⟩ := h2
      have nr : r ≠ d := fun z => by
        subst z
        rw [lockd_at] at e2; cases e2
      exact ⟨r, e1, (lockd_ne nr).symm.trans e2, e3.unlock hd, fun q e => (e4 q e).unlock hd⟩
end
def lkH (H0 : Hp) : Option (Addr × HO) → Hp
  | some (d, u) => fun b => if b = d then some u else H0 b
  | none => H0
def Gd.lk (G : Gd) (q : Option (Addr × HO)) : Gd := { A0 := G.A0, H0 := lkH G.H0 q, io := G.io, px := G.px }
def ksD (kvs : List (List Int × Addr × V)) : List D := kvs.map fun p => .tup (p.1.map .int)
theorem ps_orD {X : Cx} {st : Stmt} {t1 t2 : TS} (h1 : PS X st t1) (h2 : PS X st t2) : PS X st (fun D σ H => t1 D σ H ∨ t2 D σ H) := ⟨fun pins s σ H D I q => q.elim (h1.run pins s σ H D I) (h2.run pins s σ H D I)⟩
def itemsD (ks vs : List D) : List D := (ks.zip vs).map fun p => .tup [p.1, p.2]
def finD : Out → Out
  | .nx ρ => .nx ρ
  | .rt d ρ => .rt d ρ
  | _ => .bad
def msForD (j : Nat) (g : MG) (mb : MS) : MS := fun ρ => match getO ρ j with
  | some (.dct true ks vs) => finD (loopL g mb (itemsD ks vs) ρ)
  | _ => .bad
theorem items_get {K : PySem.W.Frag} {A : Addr → Prop} {H : Hp} : ∀ {kvs : List (List Int × Addr × V)} {vs : List D}, (∀ p ∈ kvs, SqTA K A H p.2.1 (p.1.map V.int)) → RpA K A H (kvs.map (·.2.2)) vs → ∀ (i : Nat) (x : D), (itemsD (kvs.map fun p => D.tup (p.1.map D.int)) vs)[i]? = some x → ∃ p, kvs[i]? = some p ∧ ∃ k v, x = .tup [k, v] ∧ RpA K A H [.ref p.2.1, p.2.2] [k, v]
  | [], [], _, _, i, x, e => by cases i <;> cases e
  | [], _ :: _, _, r, _, _, _ => by cases r
  | p :: kvs, [], _, r, _, _, _ => by cases r
  | p :: kvs, w :: vs, h, .cons r1 r2, 0, x, e => by
    cases e
    exact ⟨p, rfl, _, _, rfl, .cons (.tup (h p List.mem_cons_self) (rp_ints p.1)) (.cons r1 .nil)⟩
  | p :: kvs, w :: vs, h, .cons r1 r2, i + 1, x, e => items_get (kvs := kvs) (vs := vs) (fun p' hp' => h p' (List.mem_cons_of_mem _ hp')) r2 i x e
section
variable {X : Cx} {G : Gd} {XC : List Nat → Prop} {Ol O : List Nat} {W : WX} {fr : Bool} {pos py apos cpos tpos : Pos} {mb : MS} {g : MG} {elts : List Expr} {kk : Nat} {y : Str} {vs : List Nat} {body : List Stmt} {j : Nat}
theorem ds_forD (hp : PassesOwn (model X.prog X.w) X.A X.env X.xe) (hc : X.calm = true) (hj : O.contains j = false) (hy : PE X (.Name y py) (tVar j)) (hg : ∀ q, DG X (G.lk q) O vs (.Tuple elts kk tpos) g) (hb : ∀ q, DSs X (G.lk q) XC O O O W fr body mb)
    (hs : ∀ x, foldedSetIterable (.Call (.Attribute (.Name y py) "items" apos) [] [] cpos) X.env x = pure x := by intro _; rfl)
    (hbase : attributeBase (.Name y py) "items" X.env (eval (.Name y py) X.env) = eval (.Name y py) X.env := by rfl) (hline : (apos.endLine == cpos.line) = true := by rfl) : DS X G XC Ol O O W fr (.For (.Tuple elts kk tpos) (.Call (.Attribute (.Name y py) "items" apos) [] [] cpos) body [] pos) (msForD j g mb) := by
  have nj : j ∉ O := fun z => by rw [List.contains_iff_mem.mpr z] at hj; cases hj
  have dgE : PG X (.Tuple elts kk tpos) (fun x σ H Q => ∃ (q : Option (Addr × HO)), tG X.K (G.lk q) O vs g x σ H Q) := ⟨fun pins s σ H v u Q I r ⟨q, h⟩ => (hg q).run pins s σ H v u Q I r h⟩
  have bdE : PSs X body (fun D σ H => ∃ (q : Option (Addr × HO)), True ∧ tS X.K (G.lk q) XC O O O W fr mb D σ H) := pss_ex fun q _ => hb q
  have st := ps_for (pos := pos) hp hc (pi_itemsO hy hbase hline) dgE bdE hs
  refine ps_imp (ps_orD (ps_lock st) st) fun D0 σ H ⟨A, ms, ρ, R, q⟩ => ?_
  unfold msForD at q
  split at q
  · rename_i ks vs' hd
    have hd' := getO_some hd
    obtain ⟨v, e1, rv⟩ := R.fz j _ hd' nj
    cases rv with
    | @dT d kvs _ _ h n e rr =>
      obtain ⟨ky, e2⟩ := e
      replace e2 : ks = ksD kvs := e2
      subst e2
      have hl1 : (itemsD (ksD kvs) vs').length = kvs.length := by
        have := rr.length
        unfold itemsD ksD
        rw [List.length_map, List.length_zip, List.length_map, ← this, List.length_map, Nat.min_self]
      -- the walk, the dict locked
      have core : ∀ (gq : Option (Addr × HO)) (od : Obj) (H1 : Hp) (D1 : Ends), RelS X.K (G.lk gq) O A ms σ H1 ρ → H1 d = some (.frz od (DTo d kvs)) → (∀ p ∈ kvs, SqTA X.K A H1 p.2.1 (p.1.map V.int)) → RpA X.K A H1 (kvs.map (·.2.2)) vs' →
          SPost X.K (G.lk gq) XC O O W fr A H1 { nx := D1.nx, rt := D1.rt, bk := fun _ _ => False, ct := fun _ _ => False } (finD (loopL g mb (itemsD (ksD kvs) vs') ρ)) →
          ∃ Wf : Nat → Nat → L2.St → Hp → Prop, (∃ m, Wf 0 m σ H1) ∧ ∀ i m σ H, Wf i m σ H → ((ItO d od kvs).stop i H ∧ D1.nx σ H) ∨ ((ItO d od kvs).go i H ∧ ∃ N : L2.St → Hp → Prop, (∀ σ' H', N σ' H' → ∃ m', m' < m ∧ Wf (i + 1) m' σ' H') ∧
            ∀ x H', (ItO d od kvs).yld i H x H' → (∃ (q : Option (Addr × HO)), tG X.K (G.lk q) O vs g x σ H' fun σ2 H2 => ∃ (q : Option (Addr × HO)), True ∧ tS X.K (G.lk q) XC O O O W fr mb { D1 with nx := N, ct := N, bk := D1.nx } σ2 H2)) := by
        intro gq od H1 D1 R1 lk1 ky1 rr1 q'
        refine ⟨fun i m σ' H' => i ≤ kvs.length ∧ m = kvs.length - i ∧ ∃ A' ms' ρ', RelS X.K (G.lk gq) O A' ms' σ' H' ρ' ∧ Tr A A' H1 H' ∧ SPost X.K (G.lk gq) XC O O W fr A' H' { nx := D1.nx, rt := D1.rt, bk := fun _ _ => False, ct := fun _ _ => False } (finD (loopL g mb ((itemsD (ksD kvs) vs').drop i) ρ')),
          ⟨kvs.length, Nat.zero_le _, rfl, A, ms, ρ, R1, Tr.refl, q'⟩, ?_⟩
        rintro i m σ2 H2 ⟨hi, rfl, A2, ms2, ρ2, R2, t2, q3⟩
        have lk2 : H2 d = some (.frz od (DTo d kvs)) := (t2 d _ lk1 n).1
        by_cases hlt : i < kvs.length
        · have hd2 : (itemsD (ksD kvs) vs')[i]? = some ((itemsD (ksD kvs) vs')[i]'(by omega)) := List.getElem?_eq_getElem (by omega)
          obtain ⟨p, hp1, k, v, ex, rx⟩ := items_get (fun p hp => (ky1 p hp).tr t2) (rr1.tr t2) i _ hd2
          have ed : (itemsD (ksD kvs) vs').drop i = .tup [k, v] :: (itemsD (ksD kvs) vs').drop (i + 1) := by
            rw [List.drop_eq_getElem_cons (by omega), ex]
          rw [ed] at q3
          refine .inr ⟨⟨lk2, hlt⟩, fun σ' H' => i + 1 ≤ kvs.length ∧ ∃ A' ms' ρ', RelS X.K (G.lk gq) O A' ms' σ' H' ρ' ∧ Tr A A' H1 H' ∧ SPost X.K (G.lk gq) XC O O W fr A' H' { nx := D1.nx, rt := D1.rt, bk := fun _ _ => False, ct := fun _ _ => False } (finD (loopL g mb ((itemsD (ksD kvs) vs').drop (i + 1)) ρ')),
            fun σ' H' ⟨w1, w2⟩ => ⟨kvs.length - (i + 1), by omega, w1, rfl, w2⟩, fun x H3 hy3 => ?_⟩
          obtain ⟨T, p', hp', rfl, hT, rfl⟩ := hy3
          rw [hp1] at hp'
          cases hp'
          have s3 : Same H2 (upd H2 T (.tup [.ref p.2.1, p.2.2])) := same_upd hT
          have nT : ¬ A2 T := Trk.no (fun a z => R2.trk a z) hT
          have rT : Rp X.K A2 (upd H2 T (.tup [.ref p.2.1, p.2.2])) (.ref T) (.tup [k, v]) := .tup (.inl ⟨.inl upd_same, nT⟩) (rx.tr (Tr.same s3))
          refine ⟨gq, A2, ms2, ρ2, .tup [k, v], R2.same s3, rT, ?_⟩
          have q4 : SPost X.K (G.lk gq) XC O O W fr A2 (upd H2 T (.tup [.ref p.2.1, p.2.2])) { nx := D1.nx, rt := D1.rt, bk := fun _ _ => False, ct := fun _ _ => False } (finD (match g (.tup [k, v]) ρ2 with
            | .ok _ ρ1 => match mb ρ1 with
              | .nx ρ2 => loopL g mb ((itemsD (ksD kvs) vs').drop (i + 1)) ρ2
              | .ct ρ2 => loopL g mb ((itemsD (ksD kvs) vs').drop (i + 1)) ρ2
              | .bk ρ2 => .nx ρ2
              | o => o
            | _ => .bad)) := SPost.from (Tr.same s3) q3
          have t3 : Tr A A2 H1 (upd H2 T (.tup [.ref p.2.1, p.2.2])) := t2.trans (Tr.same s3)
          cases hgd : g (.tup [k, v]) ρ2 with
          | bad => rw [hgd] at q4; exact q4.elim
          | ex y ρ3 => rw [hgd] at q4; exact q4.elim
          | ok u ρ3 =>
            rw [hgd] at q4
            intro σ4 H4 _ R4 k4
            refine ⟨gq, trivial, A2, ms2, ρ3, R4, ?_⟩
            have t4 := t3.trans (R4.kt k4)
            have q5 := SPost.from (R4.kt k4) q4
            cases hm : mb ρ3 with
            | nx ρ5 =>
              simp only [hm] at q5
              exact fun σ' H' A' ms' R' t => ⟨hlt, A', ms', ρ5, R', t4.trans t, SPost.from t q5⟩
            | ct ρ5 =>
              simp only [hm] at q5
              exact fun σ' H' A' ms' R' t => ⟨hlt, A', ms', ρ5, R', t4.trans t, SPost.from t q5⟩
            | bk ρ5 =>
              simp only [hm] at q5
              exact fun σ' H' A' ms' R' t => q5 σ' H' A' ms' R' t
            | rt z ρ5 => simp only [hm] at q5; exact q5
            | ex y ρ5 => simp only [hm] at q5; exact q5.elim
            | bad => simp only [hm] at q5; exact q5.elim
        · have ei : i = kvs.length := by omega
          subst ei
          refine .inl ⟨⟨lk2, Nat.le_refl _⟩, ?_⟩
          rw [← hl1, List.drop_length] at q3
          exact q3 σ2 H2 A2 ms2 R2 Tr.refl
      rcases h with hH | ⟨od, hH⟩
      · have nio : G.io ≠ some d := fun z => by
          obtain ⟨_, z1, _⟩ := R.io d z
          exact n (R.sub d z1)
        have g0 : ∀ o, G.H0 d = some o → G.io ≠ some d → o = DTo d kvs := fun o z nz => by
          have := R.keep d o z nz
          rw [hH] at this
          exact (Option.some.inj this).symm
        refine .inl ⟨d, DTo d kvs, hH, trivial, fun od => ?_⟩
        have lk1 : (upd H d (.frz od (DTo d kvs))) d = some (.frz od (DTo d kvs)) := upd_same
        refine ⟨_, e1, d, od, kvs, rfl, lk1, ?_⟩
        refine core (some (d, .frz od (DTo d kvs))) od _ _ (R.lock (od := od) hH n) lk1 (fun p hp => (ky p hp).lock hH) (rr.lock hH) ?_
        revert q
        cases loopL g mb (itemsD (ksD kvs) vs') ρ with
        | nx ρ2 =>
          intro q σ' H' A' ms' R' t
          have hf : H' d = some (.frz od (DTo d kvs)) := (t d _ lk1 n).1
          refine ⟨hf, q σ' _ A' ms' (RelS.unlock R' hf g0 nio R.trk0) fun a o e na => ?_⟩
          by_cases h : a = d
          · subst h
            rw [hH] at e; cases e
            exact ⟨upd_same, (t a _ lk1 n).2⟩
          · rw [upd_ne h]
            exact t a o (by rw [upd_ne h]; exact e) na
        | rt z ρ2 =>
          intro q v H' rg
          have hf : H' d = some (.frz od (DTo d kvs)) := rg.1 d _ lockd_at nio
          exact ⟨hf, q v _ (retG_unlock rg hf g0 nio)⟩
        | ex _ _ => exact fun q => q
        | bk _ => exact fun q => q
        | ct _ => exact fun q => q
        | bad => exact fun q => q
      · refine .inr ⟨_, e1, d, od, kvs, rfl, hH, ?_⟩
        refine core none od _ _ R hH ky rr ?_
        revert q
        cases loopL g mb (itemsD (ksD kvs) vs') ρ with
        | nx ρ2 => exact fun q => q
        | rt z ρ2 => exact fun q => q
        | ex _ _ => exact fun q => q
        | bk _ => exact fun q => q
        | ct _ => exact fun q => q
        | bad => exact fun q => q
  · exact q.elim
end
theorem u0 {n k : Nat} (h : n + 64 < k) : n < k := by omega
theorem b_sortedDk {X : Cx} (hc : X.calm = true) (hu : X.A.units + 64 < cLine) : CallR X (.builtin "sorted") (rDN X.K gSortDk) := rFN.weak (b_sortedDkF hc hu)
end DL
namespace DL
open L2 PySem PySem.Spec PyProof.Rows
def gAnyIT : List D → Option D
  | [.tup l] => (asInts l).map fun ns => .bl (ns.any fun n => n != 0)
  | _ => none
theorem iter_anyT {prog : Program} {w : World} {A : Around} {E : Value → Shared → Prop} {s : Shared} {l : Addr} {items : Array Value} {Q : Value → Shared → Prop} (hl : s.heap.IsTuple l items)
    (h : ∀ s₂ : Shared, s₂ = { s with heap := s.heap.push { cls := .type "tuple_iterator", data := .fields #[.ref l, .int 0 0] } } →
      (s₂.heap.IsTupleIter s.heap.objs.size l 0 ∧ s₂.heap.IsTuple l items) → l ≠ s.heap.objs.size → Q (.ref s.heap.objs.size) s₂) : wpAny (model prog w) A (pyIter (.ref l)) Q E s := by
  have hlt : l < s.heap.objs.size := by obtain ⟨_, e, _⟩ := hl; exact Heap.lt_size e
  exact wpAny_pyIter_tuple hl (h _ rfl ⟨⟨_, Heap.get?_push_size _ rfl, rfl, rfl⟩, hl.push _⟩ (Nat.ne_of_lt hlt))
section
variable {X : Cx}
theorem cr_anyIT (hc : X.calm = true) : CallR X (.builtin "any") (fun vs H Q => ∃ (a : Addr) (ns : List Int), vs = [V.ref a] ∧ SqT X.K H a (ns.map V.int) ∧ Q (.bl (ns.any fun n => n != 0)) H) := by
  intro pins s σ H vs us Q I r h
  obtain ⟨a, ns, rfl, hs, q⟩ := h
  obtain ⟨its, rv, hl, _⟩ := I.tuple hs
  rw [Vals.ref1 r]
  obtain ⟨_, hb1, hb2⟩ := vals_ints rv
  refine call_any_walk (iter_anyT hl fun s₂ e2 st hne => ?_)
  subst e2
  refine ⟨_, _, _, _, _, _, _, rfl, Walks.tuple (A := X.A.in1) (I.ok.hd hc) _ a hne its.toArray, st, truth_intsL hb2, fun h' tk hk => ?_⟩
  refine ⟨.bl _, H, I.kept fun b o eo => hk b o (fun hmem => ?_) (Heap.get?_push_of_some _ eo), ?_, q⟩
  · rcases List.mem_cons.mp hmem with e1 | hmem
    · exact absurd (e1 ▸ Heap.lt_size eo) (Nat.lt_irrefl _)
    · cases hmem
  · show Value.bool _ = Value.bool _
    rw [← any_rangeI, List.size_toArray, hb1]
theorem b_anyIT (hc : X.calm = true) : CallR X (.builtin "any") (rDN X.K gAnyIT) := by
  intro pins s σ H xs us Q I r ⟨A, ds, d, t, p, e, q⟩
  unfold gAnyIT at e
  split at e
  · rename_i l
    obtain ⟨ns, hb, rfl⟩ := map_some e
    obtain ⟨v, rfl, hv⟩ := one_arg p
    rw [asInts_eq hb] at hv
    cases hv with
    | of hv =>
      cases hv with
      | tup h rr =>
        rw [rr.ints] at h
        exact cr_anyIT hc pins s σ H _ us Q I r ⟨_, ns, rfl, h.sq, q _ _ (Same.refl _) (.bl _)⟩
  · cases e
end
end DL
namespace Q
open DL L2 PySem PySem.Spec PyProof.Rows
def m_law_number : MS := (msSeq (msIf (mTest (m2 gLt (mVar 0) (mK (.int 0)))) (msRet (m2 gSub (mK (.int 0)) (mVar 0))) msNil) (msRet (mVar 0)))
def F_law_number : FN := runM 1 1 [] false m_law_number
def m_law_divisor_b0 : MS := (msSeq (msIf (mTest (m2 gEq (mVar 3) (mK (.int 0)))) msBrk msNil) (msPar [2, 3] (mCons (mVar 3) (mCons (m2 gMod (mN gInt (mCons (mVar 2) mNil)) (mVar 3)) mNil))))
def m_law_divisor : MS := (msSeq (msAsg (mN gAbs (mCons (mVar 0) mNil)) (mgName 2)) (msSeq (msAsg (mN gAbs (mCons (mVar 1) mNil)) (mgName 3)) (msSeq (msFor (mItN gRange1 (mCons (m2 gPow (mK (.int 10)) (mK (.int 9))) mNil)) (mgName 4) m_law_divisor_b0) (msRet (mVar 2)))))
def F_law_divisor : FN := runM 5 2 [] false m_law_divisor
def m_law_next : MS := (msSeq (msIf (mTruO 0) (msRet (mOM gPop 0 mNil)) msNil) (msRet (mK (.int 0))))
def F_law_next : FN := runM 1 1 [] false m_law_next
def mcheck_letters : MS := (msIf (mNotT (mTest (mChain gLe gLe (mK (.int 1)) (mVar 0) (mK (.int 4))))) (msRaise "BadNumber") msNil)
def Fcheck_letters : FN := runM 1 1 [] false mcheck_letters
def mdivisor_b0 : MS := (msPar [0, 1] (mCons (mVar 1) (mCons (m2 gMod (mVar 0) (mVar 1)) mNil)))
def mdivisor_c1 : MT := (mTest (m2 gNe (mVar 1) (mK (.int 0))))
def mdivisor : MS := (msSeq (msPar [0, 1] (mCons (mN gAbs (mCons (mVar 0) mNil)) (mCons (mN gAbs (mCons (mVar 1) mNil)) mNil))) (msSeq (msWhile 1000000 mdivisor_c1 mdivisor_b0) (msRet (mVar 0))))
def Fdivisor : FN := runM 2 2 [] false mdivisor
def mis_plane_s0 : MS := (msExpr (mCall Q.Fcheck_letters (mCons (mVar 0) mNil)))
def mis_plane_e1 : ME := (m2 gLe (mN gAbs (mCons (mVar 2) mNil)) (mK (.int 1000)))
def mis_plane_s2 : MS := (msIf (mOrT (mTest (m2 gNe (mN gLen (mCons (mVar 1) mNil)) (m2 gAdd (mVar 0) (mK (.int 1))))) (mNotT (mTru (mN gAll (mCons (mLc [2] (mIter (mVar 1)) (mgName 2) mYes mis_plane_e1) mNil))))) (msRet (mK (.bl false))) msNil)
def mis_plane_s3 : MS := (msAsg (mK (.int 0)) (mgName 3))
def mis_plane_b4 : MS := (msAsg (mCall Q.Fdivisor (mCons (mVar 3) (mCons (mVar 2) mNil))) (mgName 3))
def mis_plane_s5 : MS := (msFor (mIter (mVar 1)) (mgName 2) mis_plane_b4)
def mis_plane_e6 : ME := (m2 gNe (mVar 2) (mK (.int 0)))
def mis_plane_s7 : MS := (msRet (mAnd (m2 gEq (mVar 3) (mK (.int 1))) (mN gAny (mCons (mLc [2] (mIter (mSl (.ex (mVar 1)) mNoP (mPart (mVar 0)))) (mgName 2) mYes mis_plane_e6) mNil))))
def mis_plane : MS := (msSeq mis_plane_s0 (msSeq mis_plane_s2 (msSeq mis_plane_s3 (msSeq mis_plane_s5 mis_plane_s7))))
def Fis_plane : FN := runM 4 2 [] false mis_plane
def mother_way : MS := (msRet (mN gTuple (mCons (mLc [1] (mIter (mVar 0)) (mgName 1) mYes (m1 gNeg (mVar 1))) mNil)))
def Fother_way : FN := runM 2 1 [] false mother_way
def mare_planes_e0 : ME := (mCall Q.Fis_plane (mCons (mVar 0) (mCons (mVar 2) mNil)))
def mare_planes_e1 : ME := (mOr (m2 gEq (mN gTuple (mCons (mVar 2) mNil)) (mVar 4)) (m2 gEq (mCall Q.Fother_way (mCons (mVar 2) mNil)) (mVar 4)))
def mare_planes_b2 : MS := (msIf (mTru (mN gAny (mCons (mLc [4] (mIter (mSl (.ex (mVar 1)) mNoP (mPart (mVar 3)))) (mgName 4) mYes mare_planes_e1) mNil))) (msRet (mK (.bl false))) msNil)
def mare_planes : MS := (msSeq (msIf (mOrT (mTest (m2 gGt (mN gLen (mCons (mVar 1) mNil)) (mK (.int 12)))) (mNotT (mTru (mN gAll (mCons (mLc [2] (mIter (mVar 1)) (mgName 2) mYes mare_planes_e0) mNil))))) (msRet (mK (.bl false))) msNil) (msSeq (msFor (mItN gEnumS (mCons (mVar 1) mNil)) (mgTup 2 (mgCons (mgName 3) (mgCons (mgName 2) mgNil))) mare_planes_b2) (msRet (mK (.bl true)))))
def Fare_planes : FN := runM 5 2 [] false mare_planes
def mPlanes_init : MS := (msSeq (msExpr (mCall Q.Fcheck_letters (mCons (mVar 1) mNil))) (msSeq (msIf (mNotT (mTru (mCall Q.Fare_planes (mCons (mVar 1) (mCons (mVar 2) mNil))))) (msRaise "NotPlanes") msNil) (msSeq (msFld (isC ["Planes"]) "n" 0 (mVar 1)) (msFld (isC ["Planes"]) "kept" 0 (mN gTuple (mCons (mVar 2) mNil))))))
def FPlanes_init : FN := runM 3 3 [] false mPlanes_init
def mPlanes_planes : MS := (msRet (mN gList (mCons (m1 (gFld (isC ["Planes"]) "kept") (mVar 0)) mNil)))
def FPlanes_planes : FN := runM 1 1 [] false mPlanes_planes
def mPlanes_len : MS := (msRet (mN gLen (mCons (m1 (gFld (isC ["Planes"]) "kept") (mVar 0)) mNil)))
def FPlanes_len : FN := runM 1 1 [] false mPlanes_len
end Q
namespace Q
open DL L2 PySem PySem.Spec PyProof.Rows
end Q
namespace Q
open DL L2 PySem PySem.Spec PyProof.Rows
end Q
namespace Q
open DL L2 PySem PySem.Spec PyProof.Rows
end Q
namespace Q
open DL L2 PySem PySem.Spec PyProof.Rows
end Q
namespace Q
open DL L2 PySem PySem.Spec PyProof.Rows
end Q
namespace Q
open DL L2 PySem PySem.Spec PyProof.Rows
def m_law_pairs_e0 : ME := (mN gTup (mCons (mVar 3) (mCons (mVar 4) mNil)))
def m_law_pairs_b1 : MS := (msExpr (mOM gExtend 2 (mCons (mLc [4] (mItN gRange2 (mCons (m2 gAdd (mVar 3) (mK (.int 1))) (mCons (m2 gAdd (mVar 1) (mK (.int 1))) mNil))) (mgName 4) mYes m_law_pairs_e0) mNil)))
def m_law_pairs : MS := (msForget 2 (msSeq (msOwn 2 (mN gLst mNil)) (msSeq (msFor (mItN gRange2 (mCons (mVar 0) (mCons (m2 gAdd (mVar 1) (mK (.int 1))) mNil))) (mgName 3) m_law_pairs_b1) (msRetO 2))))
def F_law_pairs : FN := runM 5 2 [] false m_law_pairs
end Q
namespace Q
open DL L2 PySem PySem.Spec PyProof.Rows
def m_law_draws_v2_b0 : MS := (msSeq (msIf (mTest (m2 gEq (mVar 3) (mK (.int 0)))) msBrk msNil) (msSeq (msExpr (mOM gAppend 1 (mCons (m2 gMod (mN gInt (mCons (mVar 3) mNil)) (mK (.int 1000))) mNil))) (msAsg (m2 gDiv (mVar 3) (mK (.int 1000))) (mgName 3))))
def m_law_draws_v2_b1 : MS := (msSeq (msAsg (mCall Q.F_law_number (mCons (mVar 2) mNil)) (mgName 3)) (msIf (mTest (m2 gGe (mVar 3) (mK (.int 1000000000000000000)))) (msFor (mItN gRange1 (mCons (mK (.int 60)) mNil)) (mgName 4) m_law_draws_v2_b0) (msSeq (msAsg (m2 gMod (mN gInt (mCons (m2 gAdd (m2 gMul (mVar 3) (mK (.int 48271))) (mK (.int 11))) mNil)) (mK (.int 2147483647))) (mgName 5)) (msSeq (msAsg (m2 gMod (mN gInt (mCons (m2 gAdd (m2 gMul (mVar 5) (mK (.int 69621))) (mVar 3)) mNil)) (mK (.int 2147483629))) (mgName 6)) (msExpr (mOM gExtend 1 (mCons (mN gLst (mCons (m2 gMod (mN gInt (mCons (mVar 3) mNil)) (mK (.int 1000))) (mCons (m2 gMod (mN gInt (mCons (mVar 5) mNil)) (mK (.int 1000))) (mCons (m2 gMod (mN gInt (mCons (mVar 6) mNil)) (mK (.int 1000))) mNil)))) mNil)))))))
def m_law_draws_v2 : MS := (msForget 1 (msSeq (msOwn 1 (mN gLst mNil)) (msSeq (msFor (mIter (mVar 0)) (mgName 2) m_law_draws_v2_b1) (msSeq (msExpr (mOM gReverse 1 mNil)) (msRetO 1)))))
def F_law_draws_v2 : FN := runM 7 1 [] true m_law_draws_v2
def m_law_sets_b0 : MS := (msExpr (mOM gAppend 4 (mCons (m2 gAdd (mVar 5) (mN gTup (mCons (mVar 6) mNil))) mNil)))
def m_law_sets_b1 : MS := (msFor (mItN gRange2 (mCons (m2 gAdd (m2 gIx (mOr (mVar 5) (mN gTup (mCons (m1 gNeg (mK (.int 1))) mNil))) (m1 gNeg (mK (.int 1)))) (mK (.int 1))) (mCons (mVar 0) mNil))) (mgName 6) m_law_sets_b0)
def m_law_sets_b2 : MS := (msForget 4 (msSeq (msOwn 4 (mN gLst mNil)) (msSeq (msFor (mIter (mVar 2)) (mgName 5) m_law_sets_b1) (msAsg (mVar 4) (mgName 2)))))
def m_law_sets : MS := (msSeq (msAsg (mN gLst (mCons (mN gTup mNil) mNil)) (mgName 2)) (msSeq (msFor (mItN gRange1 (mCons (mVar 1) mNil)) (mgName 3) m_law_sets_b2) (msRet (mVar 2))))
def F_law_sets : FN := runM 7 2 [] false m_law_sets
end Q
namespace Q
open DL L2 PySem PySem.Spec PyProof.Rows
end Q
namespace Q
open DL L2 PySem PySem.Spec PyProof.Rows
end Q
namespace Q
open DL L2 PySem PySem.Spec PyProof.Rows
end Q
namespace Q
open DL L2 PySem PySem.Spec PyProof.Rows
def m_law_short_b0 : MS := (msAsg (mCall Q.F_law_divisor (mCons (mVar 1) (mCons (mVar 2) mNil))) (mgName 1))
def m_law_short : MS := (msSeq (msAsg (mK (.int 0)) (mgName 1)) (msSeq (msFor (mIter (mVar 0)) (mgName 2) m_law_short_b0) (msSeq (msIf (mTest (m2 gLt (mVar 1) (mK (.int 2)))) (msRet (mN gTuple (mCons (mVar 0) mNil))) msNil) (msRet (mN gTuple (mCons (mLc [2] (mIter (mVar 0)) (mgName 2) mYes (m2 gDiv (mVar 2) (mVar 1))) mNil))))))
def F_law_short : FN := runM 3 1 [] false m_law_short
def m_law_rows_e0 : ME := (m2 gSub (m2 gMod (mN gInt (mCons (mCallIo Q.F_law_next 0 mNil) mNil)) (mK (.int 5))) (mK (.int 2)))
def m_law_rows_e1 : ME := (m2 gSub (mK (.int 0)) (mVar 9))
def m_law_rows_b2 : MS := (msForget 6 (msSeq (msOwn 6 (mLc [7] (mItN gRange1 (mCons (mVar 1) mNil)) (mgName 7) mYes m_law_rows_e0)) (msSeq (msIf (mNotT (mTru (mNO gAnyI 6))) (msAsg (mK (.int 1)) (mgSub 6 (m2 gMod (mN gInt (mCons (mCallIo Q.F_law_next 0 mNil) mNil)) (mVar 1)))) msNil) (msSeq (msAsg (mIf (mTru (mVar 3)) (mK (.int 0)) (m2 gSub (m2 gMod (mN gInt (mCons (mCallIo Q.F_law_next 0 mNil) mNil)) (mK (.int 4))) (mK (.int 1)))) (mgName 8)) (msSeq (msAsg (mCall Q.F_law_short (mCons (m2 gAdd (mVar 6) (mN gLst (mCons (mVar 8) mNil))) mNil)) (mgName 6)) (msIf (mAndT (mTest (m2B gNotIn (.ex (mVar 6)) (.ow 4))) (mTest (m2B gNotIn (.ex (mN gTuple (mCons (mLc [9] (mIter (mVar 6)) (mgName 9) mYes m_law_rows_e1) mNil))) (.ow 4)))) (msExpr (mOM gAppend 4 (mCons (mVar 6) mNil))) msNil))))))
def m_law_rows : MS := (msSeq (msAsg (m2 gEq (m2 gMod (mN gInt (mCons (mCallIo Q.F_law_next 0 mNil) mNil)) (mK (.int 2))) (mK (.int 0))) (mgName 3)) (msForget 4 (msSeq (msOwn 4 (mN gLst mNil)) (msSeq (msFor (mItN gRange1 (mCons (m2 gMod (mN gInt (mCons (mCallIo Q.F_law_next 0 mNil) mNil)) (m2 gAdd (mVar 2) (mK (.int 1)))) mNil)) (mgName 5) m_law_rows_b2) (msRetO 4)))))
def F_law_rows : FN := runM 10 3 [] false m_law_rows
def m_law_subsets_e0 : ME := (m2 gAdd (mVar 3) (mN gTup (mCons (mVar 2) mNil)))
def m_law_subsets_b1 : MS := (msAsg (m2 gAdd (mVar 1) (mLc [3] (mIter (mVar 1)) (mgName 3) mYes m_law_subsets_e0)) (mgName 1))
def m_law_subsets : MS := (msSeq (msAsg (mN gLst (mCons (mN gTup mNil) mNil)) (mgName 1)) (msSeq (msFor (mItN gRange1 (mCons (mVar 0) mNil)) (mgName 2) m_law_subsets_b1) (msRet (mVar 1))))
def F_law_subsets : FN := runM 4 1 [] false m_law_subsets
def m_law_chosen : MS := (msRet (mLc [2] (mIter (mVar 1)) (mgName 2) mYes (m2 gIx (mVar 0) (mVar 2))))
def F_law_chosen : FN := runM 3 2 [] false m_law_chosen
def m_law_rank_e0 : ME := (m2 gSub (m2 gMul (m2 gIx (mVar 5) (mVar 4)) (m2 gIx (mVar 3) (mVar 6))) (m2 gMul (m2 gIx (mVar 3) (mVar 4)) (m2 gIx (mVar 5) (mVar 6))))
def m_law_rank_b1 : MS := (msIf (mTest (m2 gNe (m2 gIx (mVar 3) (mVar 4)) (mK (.int 0)))) (msAsg (mCall Q.F_law_short (mCons (mLc [6] (mItN gRange1 (mCons (mN gLen (mCons (mVar 3) mNil)) mNil)) (mgName 6) mYes m_law_rank_e0) mNil)) (mgName 3)) msNil)
def m_law_rank_t2 : MT := (mTest (m2 gNe (m2 gIx (mVar 3) (mVar 4)) (mK (.int 0))))
def m_law_rank_b3 : MS := (msSeq (msForO 2 (mgTup 2 (mgCons (mgName 4) (mgCons (mgName 5) mgNil))) m_law_rank_b1) (msSeq (msAsg (mLc [4] (mItN gRange1 (mCons (mVar 1) mNil)) (mgName 4) m_law_rank_t2 (mVar 4)) (mgName 7)) (msIf (mTru (mVar 7)) (msExpr (mOM gAppend 2 (mCons (mN gTup (mCons (m2 gIx (mVar 7) (mK (.int 0))) (mCons (mVar 3) mNil))) mNil))) msNil)))
def m_law_rank : MS := (msForget 2 (msSeq (msOwn 2 (mN gLst mNil)) (msSeq (msFor (mIter (mVar 0)) (mgName 3) m_law_rank_b3) (msRet (mNO gLen 2)))))
def F_law_rank : FN := runM 8 2 [] false m_law_rank
def m_law_is_met : MS := (msSeq (msAsg (mCall Q.F_law_chosen (mCons (mVar 1) (mCons (mVar 2) mNil))) (mgName 3)) (msRet (m2 gEq (mCall Q.F_law_rank (mCons (mVar 3) (mCons (mVar 0) mNil))) (mCall Q.F_law_rank (mCons (mVar 3) (mCons (m2 gAdd (mVar 0) (mK (.int 1))) mNil))))))
def F_law_is_met : FN := runM 4 3 [] false m_law_is_met
def mcheck_places_b0 : MS := (msIf (mNotT (mTest (mChain gLe gLt (mK (.int 0)) (mVar 2) (m1 (gLenX (tb [("Planes", Q.FPlanes_len)])) (mVar 0))))) (msRaise "BadNumber") msNil)
def mcheck_places : MS := (msFor (mIter (mVar 1)) (mgName 2) mcheck_places_b0)
def Fcheck_places : FN := runM 3 2 [] false mcheck_places
def mascends_e0 : ME := (m2 gLt (m2 gIx (mVar 0) (m2 gSub (mVar 1) (mK (.int 1)))) (m2 gIx (mVar 0) (mVar 1)))
def mascends : MS := (msRet (mN gAll (mCons (mLc [1] (mItN gRange2 (mCons (mK (.int 1)) (mCons (mN gLen (mCons (mVar 0) mNil)) mNil))) (mgName 1) mYes mascends_e0) mNil)))
def Fascends : FN := runM 2 1 [] false mascends
def mSpan_init : MS := (msSeq (msFld (isC ["Span"]) "n" 0 (mVar 1)) (msSeq (msFld (isC ["Span"]) "q" 0 (mVar 2)) (msFld (isC ["Span"]) "rows" 0 (mN gLst mNil))))
def FSpan_init : FN := runM 3 3 [] false mSpan_init
def mcommon_of_b0 : MS := (msAsg (mCall Q.Fdivisor (mCons (mVar 1) (mCons (mVar 2) mNil))) (mgName 1))
def mcommon_of : MS := (msSeq (msAsg (mK (.int 0)) (mgName 1)) (msSeq (msFor (mIter (mVar 0)) (mgName 2) mcommon_of_b0) (msRet (mVar 1))))
def Fcommon_of : FN := runM 3 1 [] false mcommon_of
def mshortened : MS := (msSeq (msIf (mTest (m2 gGt (mVar 1) (mK (.int 0)))) (msRet (mN gTuple (mCons (mLc [2] (mIter (mVar 0)) (mgName 2) mYes (m2 gMod (mVar 2) (mVar 1))) mNil))) msNil) (msSeq (msAsg (mCall Q.Fcommon_of (mCons (mVar 0) mNil)) (mgName 3)) (msSeq (msIf (mTest (m2 gLt (mVar 3) (mK (.int 2)))) (msRet (mN gTuple (mCons (mVar 0) mNil))) msNil) (msRet (mN gTuple (mCons (mLc [2] (mIter (mVar 0)) (mgName 2) mYes (m2 gDiv (mVar 2) (mVar 3))) mNil))))))
def Fshortened : FN := runM 4 2 [] false mshortened
def mSpan_rest_e0 : ME := (m2 gSub (m2 gMul (m2 gIx (mVar 3) (mVar 2)) (m2 gIx (mVar 1) (mVar 4))) (m2 gMul (m2 gIx (mVar 1) (mVar 2)) (m2 gIx (mVar 3) (mVar 4))))
def mSpan_rest_b1 : MS := (msIf (mTest (m2 gNe (m2 gIx (mVar 1) (mVar 2)) (mK (.int 0)))) (msSeq (msAsg (mN gTuple (mCons (mLc [4] (mItN gRange1 (mCons (m2 gAdd (m1 (gFld (isC ["Span"]) "n") (mVar 0)) (mK (.int 1))) mNil)) (mgName 4) mYes mSpan_rest_e0) mNil)) (mgName 1)) (msAsg (mCall Q.Fshortened (mCons (mVar 1) (mCons (m1 (gFld (isC ["Span"]) "q") (mVar 0)) mNil))) (mgName 1))) msNil)
def mSpan_rest : MS := (msSeq (msAsg (mCall Q.Fshortened (mCons (mVar 1) (mCons (m1 (gFld (isC ["Span"]) "q") (mVar 0)) mNil))) (mgName 1)) (msSeq (msFor (mIter (m1 (gFld (isC ["Span"]) "rows") (mVar 0))) (mgTup 2 (mgCons (mgName 2) (mgCons (mgName 3) mgNil))) mSpan_rest_b1) (msRet (mVar 1))))
def FSpan_rest : FN := runM 5 2 [] false mSpan_rest
def mSpan_place_of_b0 : MS := (msIf (mTest (m2 gNe (m2 gIx (mVar 1) (mVar 2)) (mK (.int 0)))) (msRet (mVar 2)) msNil)
def mSpan_place_of : MS := (msSeq (msFor (mItN gRange1 (mCons (m1 (gFld (isC ["Span"]) "n") (mVar 0)) mNil)) (mgName 2) mSpan_place_of_b0) (msRet (mK .non)))
def FSpan_place_of : FN := runM 3 2 [] false mSpan_place_of
def mSpan_with_rest : MS := (msForget 3 (msSeq (msOwn 3 (mMake "Span" Q.FSpan_init (mCons (m1 (gFld (isC ["Span"]) "n") (mVar 0)) (mCons (m1 (gFld (isC ["Span"]) "q") (mVar 0)) mNil)))) (msSeq (msFld (isC ["Span"]) "rows" 3 (m2 gAdd (m1 (gFld (isC ["Span"]) "rows") (mVar 0)) (mN gLst (mCons (mN gTup (mCons (mVar 1) (mCons (mVar 2) mNil))) mNil)))) (msRetO 3))))
def FSpan_with_rest : FN := runM 4 3 [] false mSpan_with_rest
def mspan_of_rows_b0 : MS := (msSeq (msAsg (mMeth (tb [("Span", Q.FSpan_rest)]) "rest" (mVar 3) (mCons (mVar 4) mNil)) (mgName 5)) (msSeq (msAsg (mMeth (tb [("Span", Q.FSpan_place_of)]) "place_of" (mVar 3) (mCons (mVar 5) mNil)) (mgName 6)) (msIf (mTest (m2 gIsNot (mVar 6) (mK .non))) (msAsg (mMeth (tb [("Span", Q.FSpan_with_rest)]) "with_rest" (mVar 3) (mCons (mVar 6) (mCons (mVar 5) mNil))) (mgName 3)) (msIf (mTest (m2 gNe (m2 gIx (mVar 5) (mVar 0)) (mK (.int 0)))) (msRet (mK .non)) msNil))))
def mspan_of_rows : MS := (msSeq (msAsg (mMake "Span" Q.FSpan_init (mCons (mVar 0) (mCons (mVar 1) mNil))) (mgName 3)) (msSeq (msFor (mIter (mVar 2)) (mgName 4) mspan_of_rows_b0) (msRet (mVar 3))))
def Fspan_of_rows : FN := runM 7 3 [] false mspan_of_rows
def mchosen : MS := (msSeq (msAsg (mMeth (tb [("Planes", Q.FPlanes_planes)]) "planes" (mVar 0) mNil) (mgName 2)) (msRet (mLc [3] (mIter (mVar 1)) (mgName 3) mYes (m2 gIx (mVar 2) (mVar 3)))))
def Fchosen : FN := runM 4 2 [] false mchosen
def mspan_at : MS := (msRet (mCall Q.Fspan_of_rows (mCons (m1 (gFld (isC ["Planes"]) "n") (mVar 0)) (mCons (mK (.int 0)) (mCons (mCall Q.Fchosen (mCons (mVar 0) (mCons (mVar 1) mNil))) mNil)))))
def Fspan_at : FN := runM 2 2 [] false mspan_at
def mmeets : MS := (msSeq (msExpr (mCall Q.Fcheck_places (mCons (mVar 0) (mCons (mVar 1) mNil)))) (msRet (m2 gIsNot (mCall Q.Fspan_at (mCons (mVar 0) (mCons (mVar 1) mNil))) (mK .non))))
def Fmeets : FN := runM 2 2 [] false mmeets
def mrank_of_e0 : ME := (m2 gAdd (mSl (.ex (mVar 3)) mNoP (mPart (m1 gNeg (mK (.int 1))))) (mN gTup (mCons (mK (.int 0)) mNil)))
def mrank_of : MS := (msSeq (msExpr (mCall Q.Fcheck_places (mCons (mVar 0) (mCons (mVar 1) mNil)))) (msSeq (msAsg (mLc [3] (mIter (mCall Q.Fchosen (mCons (mVar 0) (mCons (mVar 1) mNil)))) (mgName 3) mYes mrank_of_e0) (mgName 2)) (msRet (mN gLen (mCons (m1 (gFld (isC ["Span"]) "rows") (mCall Q.Fspan_of_rows (mCons (m1 (gFld (isC ["Planes"]) "n") (mVar 0)) (mCons (mK (.int 0)) (mCons (mVar 2) mNil))))) mNil)))))
def Frank_of : FN := runM 4 2 [] false mrank_of
end Q
namespace Q
open DL L2 PySem PySem.Spec PyProof.Rows
def mclosed_v2_t0 : MT := (mNotT (mTru (mN gAnyIT (mCons (mMeth (tb [("Span", Q.FSpan_rest)]) "rest" (mVar 0) (mCons (mVar 3) mNil)) mNil))))
def mclosed_v2 : MS := (msRet (mN gTuple (mCons (mLc [2, 3] (mItN gEnumS (mCons (mVar 1) mNil)) (mgTup 2 (mgCons (mgName 2) (mgCons (mgName 3) mgNil))) mclosed_v2_t0 (mVar 2)) mNil)))
def Fclosed_v2 : FN := runM 4 2 [] false mclosed_v2
def mis_flat_v2_e0 : ME := (mChain gLe gLt (mK (.int 0)) (mVar 2) (m1 (gLenX (tb [("Planes", Q.FPlanes_len)])) (mVar 0)))
def mis_flat_v2 : MS := (msSeq (msIf (mOrT (mNotT (mTru (mCall Q.Fascends (mCons (mVar 1) mNil)))) (mNotT (mTru (mN gAll (mCons (mLc [2] (mIter (mVar 1)) (mgName 2) mYes mis_flat_v2_e0) mNil))))) (msRet (mK (.bl false))) msNil) (msSeq (msAsg (mCall Q.Fspan_at (mCons (mVar 0) (mCons (mVar 1) mNil))) (mgName 3)) (msRet (mAnd (m2 gIsNot (mVar 3) (mK .non)) (m2 gEq (mCall Q.Fclosed_v2 (mCons (mVar 3) (mCons (mMeth (tb [("Planes", Q.FPlanes_planes)]) "planes" (mVar 0) mNil) mNil))) (mVar 1))))))
def Fis_flat_v2 : FN := runM 4 2 [] false mis_flat_v2
def mcheck_flat_v2 : MS := (msIf (mNotT (mTru (mCall Q.Fis_flat_v2 (mCons (mVar 0) (mCons (mVar 1) mNil))))) (msRaise "NotFlat") msNil)
def Fcheck_flat_v2 : FN := runM 2 2 [] false mcheck_flat_v2
def mmeet_of_v2_s0 : MS := (msExpr (mCall Q.Fcheck_flat_v2 (mCons (mVar 0) (mCons (mVar 1) mNil))))
def mmeet_of_v2_s1 : MS := (msExpr (mCall Q.Fcheck_flat_v2 (mCons (mVar 0) (mCons (mVar 2) mNil))))
def mmeet_of_v2_s2 : MS := (msAsg (mCall Q.Fspan_at (mCons (mVar 0) (mCons (m2 gAdd (mVar 1) (mVar 2)) mNil))) (mgName 3))
def mmeet_of_v2_s3 : MS := (msIf (mTest (m2 gIs (mVar 3) (mK .non))) (msRet (mK .non)) msNil)
def mmeet_of_v2_s4 : MS := (msRet (mCall Q.Fclosed_v2 (mCons (mVar 3) (mCons (mMeth (tb [("Planes", Q.FPlanes_planes)]) "planes" (mVar 0) mNil) mNil))))
def mmeet_of_v2 : MS := (msSeq mmeet_of_v2_s0 (msSeq mmeet_of_v2_s1 (msSeq mmeet_of_v2_s2 (msSeq mmeet_of_v2_s3 mmeet_of_v2_s4))))
def Fmeet_of_v2 : FN := runM 4 3 [] false mmeet_of_v2
def mflat_of_v2 : MS := (msSeq (msExpr (mCall Q.Fcheck_places (mCons (mVar 0) (mCons (mVar 1) mNil)))) (msSeq (msAsg (mCall Q.Fspan_at (mCons (mVar 0) (mCons (mVar 1) mNil))) (mgName 2)) (msSeq (msIf (mTest (m2 gIs (mVar 2) (mK .non))) (msRaise "NoAnswer") msNil) (msRet (mCall Q.Fclosed_v2 (mCons (mVar 2) (mCons (mMeth (tb [("Planes", Q.FPlanes_planes)]) "planes" (mVar 0) mNil) mNil)))))))
def Fflat_of_v2 : FN := runM 3 2 [] false mflat_of_v2
def mflat_dimension_v2 : MS := (msSeq (msExpr (mCall Q.Fcheck_flat_v2 (mCons (mVar 0) (mCons (mVar 1) mNil)))) (msRet (m2 gSub (m1 (gFld (isC ["Planes"]) "n") (mVar 0)) (mCall Q.Frank_of (mCons (mVar 0) (mCons (mVar 1) mNil))))))
def Fflat_dimension_v2 : FN := runM 2 2 [] false mflat_dimension_v2
def mspan_of_v2_t0 : MT := (mTest (m2 gIn (mVar 3) (mVar 2)))
def mspan_of_v2 : MS := (msSeq (msExpr (mCall Q.Fcheck_flat_v2 (mCons (mVar 0) (mCons (mVar 1) mNil)))) (msSeq (msExpr (mCall Q.Fcheck_flat_v2 (mCons (mVar 0) (mCons (mVar 2) mNil)))) (msRet (mN gTuple (mCons (mLc [3] (mIter (mVar 1)) (mgName 3) mspan_of_v2_t0 (mVar 3)) mNil)))))
def Fspan_of_v2 : FN := runM 4 3 [] false mspan_of_v2
def mlevels_v2_s0 : MS := (msAsg (mMake "Span" Q.FSpan_init (mCons (mVar 0) (mCons (mVar 1) mNil))) (mgName 3))
def mlevels_v2_s1 : MS := (msAsg (mDct1 (mCall Q.Fclosed_v2 (mCons (mVar 3) (mCons (mVar 2) mNil))) (mVar 3)) (mgName 4))
def mlevels_v2_b2 : MS := (msSeq (msIf (mTest (m2 gIn (mVar 9) (mVar 7))) msCnt msNil) (msSeq (msAsg (mMeth (tb [("Span", Q.FSpan_rest)]) "rest" (mVar 8) (mCons (mVar 10) mNil)) (mgName 11)) (msSeq (msAsg (mMeth (tb [("Span", Q.FSpan_place_of)]) "place_of" (mVar 8) (mCons (mVar 11) mNil)) (mgName 12)) (msSeq (msIf (mTest (m2 gIs (mVar 12) (mK .non))) msCnt msNil) (msSeq (msAsg (mMeth (tb [("Span", Q.FSpan_with_rest)]) "with_rest" (mVar 8) (mCons (mVar 12) (mCons (mVar 11) mNil))) (mgName 13)) (msAsg (mVar 13) (mgDPut 6 (mCall Q.Fclosed_v2 (mCons (mVar 13) (mCons (mVar 2) mNil))))))))))
def mlevels_v2_b3 : MS := (msFor (mItN gEnumS (mCons (mVar 2) mNil)) (mgTup 2 (mgCons (mgName 9) (mgCons (mgName 10) mgNil))) mlevels_v2_b2)
def mlevels_v2_b4 : MS := (msSeq (msExpr (mOM gAppend 5 (mCons (mN gSortDk (mCons (mVar 4) mNil)) mNil))) (msForget 6 (msSeq (msOwn 6 mDct0) (msSeq (msForD 4 (mgTup 2 (mgCons (mgName 7) (mgCons (mgName 8) mgNil))) mlevels_v2_b3) (msAsg (mVar 6) (mgName 4))))))
def mlevels_v2_s5 : MS := (msWhile 1000000 (mTruD (mVar 4)) mlevels_v2_b4)
def mlevels_v2 : MS := (msSeq mlevels_v2_s0 (msSeq mlevels_v2_s1 (msForget 5 (msSeq (msOwn 5 (mN gLst mNil)) (msSeq mlevels_v2_s5 (msRetO 5))))))
def Flevels_v2 : FN := runM 14 3 [] false mlevels_v2
def mflats_by_rank_v2 : MS := (msRet (mCall Q.Flevels_v2 (mCons (m1 (gFld (isC ["Planes"]) "n") (mVar 0)) (mCons (mK (.int 0)) (mCons (mMeth (tb [("Planes", Q.FPlanes_planes)]) "planes" (mVar 0) mNil) mNil)))))
def Fflats_by_rank_v2 : FN := runM 1 1 [] false mflats_by_rank_v2
def mweb_v2_b0 : MS := (msExpr (mOM gExtend 1 (mCons (mVar 2) mNil)))
def mweb_v2 : MS := (msForget 1 (msSeq (msOwn 1 (mN gLst mNil)) (msSeq (msFor (mIter (mCall Q.Fflats_by_rank_v2 (mCons (mVar 0) mNil))) (mgName 2) mweb_v2_b0) (msRetO 1))))
def Fweb_v2 : FN := runM 3 1 [] false mweb_v2
end Q
namespace Q
open DL L2 PySem PySem.Spec PyProof.Rows
def m_law_closed_t0 : MT := (mTest (m2 gEq (mCall Q.F_law_rank (mCons (m2 gAdd (mVar 3) (mN gLst (mCons (m2 gIx (mVar 1) (mVar 5)) mNil))) (mCons (m2 gAdd (mVar 0) (mK (.int 1))) mNil))) (mVar 4)))
def m_law_closed : MS := (msSeq (msAsg (mCall Q.F_law_chosen (mCons (mVar 1) (mCons (mVar 2) mNil))) (mgName 3)) (msSeq (msAsg (mCall Q.F_law_rank (mCons (mVar 3) (mCons (m2 gAdd (mVar 0) (mK (.int 1))) mNil))) (mgName 4)) (msRet (mN gTuple (mCons (mLc [5] (mItN gRange1 (mCons (mN gLen (mCons (mVar 1) mNil)) mNil)) (mgName 5) m_law_closed_t0 (mVar 5)) mNil)))))
def F_law_closed : FN := runM 6 3 [] false m_law_closed
def m_law_web_b0 : MS := (msIf (mTru (mCall Q.F_law_is_met (mCons (mVar 0) (mCons (mVar 1) (mCons (mVar 3) mNil))))) (msSeq (msAsg (mCall Q.F_law_closed (mCons (mVar 0) (mCons (mVar 1) (mCons (mVar 3) mNil)))) (mgName 4)) (msIf (mTest (m2B gNotIn (.ex (mVar 4)) (.ow 2))) (msExpr (mOM gAppend 2 (mCons (mVar 4) mNil))) msNil)) msNil)
def m_law_web_e1 : ME := (mN gTup (mCons (mCall Q.F_law_rank (mCons (mCall Q.F_law_chosen (mCons (mVar 1) (mCons (mVar 4) mNil))) (mCons (mVar 0) mNil))) (mCons (mVar 4) mNil)))
def m_law_web : MS := (msForget 2 (msSeq (msOwn 2 (mN gLst mNil)) (msSeq (msFor (mIter (mCall Q.F_law_subsets (mCons (mN gLen (mCons (mVar 1) mNil)) mNil))) (mgName 3) m_law_web_b0) (msSeq (msAsg (mN gSortD (mCons (mLc [4] (mIter (mVar 2)) (mgName 4) mYes m_law_web_e1) mNil)) (mgName 5)) (msRet (mLc [6, 4] (mIter (mVar 5)) (mgTup 2 (mgCons (mgName 6) (mgCons (mgName 4) mgNil))) mYes (mVar 4)))))))
def F_law_web : FN := runM 7 2 [] false m_law_web
end Q
namespace Q
open DL L2 PySem PySem.Spec PyProof.Rows
theorem e_next : F_law_next = qNext := rfl
theorem e_div : Fdivisor = qDivisor := rfl
theorem e_ldiv : F_law_divisor = qLDivisor := rfl
def fr (q : Rat) : D := .tup [.int q.num, .int (q.den : Int)]
theorem low_dvd (a : Int) {b : Int} (h : b ≠ 0) : a = (low a b).1 * sgcd a b ∧ b = (low a b).2 * sgcd a b := by
  have d1 : sgcd a b ∣ a := by
    have := Int.gcd_dvd_left a b
    unfold sgcd
    split
    · exact Int.neg_dvd.mpr this
    · exact this
  have d2 : sgcd a b ∣ b := by
    have := Int.gcd_dvd_right a b
    unfold sgcd
    split
    · exact Int.neg_dvd.mpr this
    · exact this
  exact ⟨(Int.fdiv_mul_cancel d1).symm, (Int.fdiv_mul_cancel d2).symm⟩
theorem isNum_split {a b : Int} (h : isNum a b = true) : 1 ≤ b ∧ Int.gcd a b = 1 := by
  unfold isNum at h
  rw [Bool.and_eq_true] at h
  exact ⟨of_decide_eq_true h.1, of_decide_eq_true h.2⟩
theorem num_rat {a b : Int} (h : isNum a b = true) : ∃ q : Rat, q.num = a ∧ (q.den : Int) = b := by
  obtain ⟨h1, h2⟩ := isNum_split h
  have e : ((b.toNat : Nat) : Int) = b := Int.toNat_of_nonneg (by omega)
  refine ⟨⟨a, b.toNat, by omega, ?_⟩, rfl, e⟩
  have : Int.gcd a b = Nat.gcd a.natAbs b.toNat := by
    rw [Int.gcd_eq_natAbs_gcd_natAbs]
    congr 1
    omega
  rw [this] at h2
  exact h2
theorem low_fr (a : Int) {b : Int} (h : b ≠ 0) : tupI (low a b) = fr (Rat.divInt a b) := by
  obtain ⟨q, h1, h2⟩ := num_rat (low_num (a := a) h)
  obtain ⟨d1, d2⟩ := low_dvd a h
  have e : q = Rat.divInt a b := by
    rw [← Rat.num_divInt_den q]
    have hd : (q.den : Int) ≠ 0 := by have := q.den_pos; omega
    refine (Rat.divInt_eq_divInt_iff hd h).mpr ?_
    rw [h1, h2]
    generalize (low a b).1 = x at *
    generalize (low a b).2 = y at *
    generalize sgcd a b = s at *
    rw [d2, d1]
    simp only [Int.mul_comm, Int.mul_left_comm]
  rw [← e]
  unfold fr tupI
  rw [h1, h2]
def Sz (k : Nat) (q : Rat) : Prop := q.num.natAbs < 2 ^ k ∧ q.den < 2 ^ k
theorem Sz.up {i j : Nat} {q : Rat} (h : Sz i q) (l : i ≤ j) : Sz j q :=
  ⟨sm_up h.1 l, Nat.lt_of_lt_of_le h.2 (Nat.pow_le_pow_right (by decide) l)⟩
theorem Sz.d {k : Nat} {q : Rat} (h : Sz k q) : ((q.den : Int)).natAbs < 2 ^ k := h.2
theorem fr_low {a b : Int} (h : b ≠ 0) {k : Nat} (h1 : a.natAbs < 2 ^ k) (h2 : b.natAbs < 2 ^ k) : Sz k (Rat.divInt a b) := by
  have e := low_fr a h
  have s := low_sm h1 h2
  unfold fr tupI at e
  injection e with e
  injection e with e1 e2
  injection e2 with e2 _
  injection e1 with e1
  injection e2 with e2
  refine ⟨by rw [← e1]; exact s.1, ?_⟩
  have := s.2
  rw [e2] at this
  exact this
theorem dne (q : Rat) : (q.den : Int) ≠ 0 := by have := q.den_pos; omega
theorem add_div (p q : Rat) : p + q = Rat.divInt (p.num * (q.den : Int) + q.num * (p.den : Int)) ((p.den : Int) * (q.den : Int)) := by
  conv => lhs; rw [← Rat.num_divInt_den p, ← Rat.num_divInt_den q]
  rw [Rat.divInt_add_divInt _ _ (dne p) (dne q)]
theorem Sz.add {i j : Nat} {p q : Rat} (h1 : Sz i p) (h2 : Sz j q) : Sz (i + j + 1) (p + q) := by
  rw [add_div]
  refine fr_low (Int.mul_ne_zero (dne p) (dne q)) ?_ (sm_up (sm_mul h1.d h2.d) (by omega))
  have a := sm_mul h1.1 h2.d
  have b := sm_mul h2.1 h1.d
  rw [Nat.add_comm j i] at b
  exact sm_add a b
theorem Sz.int {k : Nat} {a : Int} (h : a.natAbs < 2 ^ k) (hk : 0 < k) : Sz k (a : Rat) := ⟨h, Nat.one_lt_two_pow (by omega)⟩
theorem Sz.zero : Sz 1 0 := ⟨by decide, by decide⟩
theorem Sz.one : Sz 1 1 := ⟨by decide, by decide⟩
theorem mulS {a b : Int} {i j : Nat} (h1 : a.natAbs < 2 ^ i) (h2 : b.natAbs < 2 ^ j) (h : i + j ≤ 8000) : gMul (.int a) (.int b) = some (.int (a * b)) :=
  gMul_sm (i := i + 1) (j := j + 1) (sm_up h1 (by omega)) (sm_up h2 (by omega)) (by omega) (by omega) (by omega)
theorem s8 {a : Int} {i : Nat} (h : a.natAbs < 2 ^ i) (l : i ≤ 8000) : a.natAbs < 2 ^ 8000 := sm_up h l
end Q
namespace Q
open DL L2 PySem PySem.Spec PyProof.Rows
theorem restE_wipe {ρ ρ2 : En} {vs : List Nat} (h : wipeE ρ2 vs = wipeE ρ vs) : restE ρ vs ρ2 = ρ := by
  have hl : ρ2.length = ρ.length := by rw [← wipeE_len ρ2 vs, h, wipeE_len]
  apply List.ext_getElem?
  intro i
  by_cases m : i ∈ vs
  · exact restE_in hl m
  · rw [restE_out m, ← wipeE_out m, h, wipeE_out m]
section
variable {α : Type} {vs : List Nat} {g : MG} {mt : MT} {me : ME} {ρ ρ0 : En} {mi : En → R (List D)} {enc : α → D} {st : α → En} {p : α → Bool} {f : α → D}
theorem lc_gen (hw : ∀ a, wipeE (st a) vs = wipeE ρ vs) : ∀ (as : List α) (ρ' : En), (∀ a ∈ as, g (enc a) (wipeE ρ vs) = .ok () (st a)) → (∀ a ∈ as, mt (st a) = .ok (p a) (st a)) → (∀ a ∈ as, p a = true → me (st a) = .ok (f a) (st a)) → wipeE ρ' vs = wipeE ρ vs →
    ∃ ρ'', lcLoop vs g mt me (as.map enc) ρ' = .ok ((as.filter p).map f) ρ'' ∧ wipeE ρ'' vs = wipeE ρ vs
  | [], ρ', _, _, _, e => ⟨ρ', rfl, e⟩
  | a :: as, ρ', hg, ht, he, e => by
    obtain ⟨ρ'', e1, e2⟩ := lc_gen hw as (st a) (fun x hx => hg x (List.mem_cons_of_mem _ hx)) (fun x hx => ht x (List.mem_cons_of_mem _ hx)) (fun x hx => he x (List.mem_cons_of_mem _ hx)) (hw a)
    refine ⟨ρ'', ?_, e2⟩
    rw [List.map_cons, List.filter_cons]
    have h1 := hg a List.mem_cons_self
    have h2 := ht a List.mem_cons_self
    cases hp : p a with
    | true =>
      have h3 := he a List.mem_cons_self hp
      rw [hp] at h2
      simp only [lcLoop, e, h1, h2, h3, e1, if_true, List.map_cons]
    | false =>
      rw [hp] at h2
      simp only [lcLoop, e, h1, h2, e1, Bool.false_eq_true, if_false]
theorem mLc_filt {as : List α} (hi : mi ρ0 = .ok (as.map enc) ρ) (hz : as.length ≤ sizeLine) (hw : ∀ a, wipeE (st a) vs = wipeE ρ vs) (hg : ∀ a ∈ as, g (enc a) (wipeE ρ vs) = .ok () (st a)) (ht : ∀ a ∈ as, mt (st a) = .ok (p a) (st a)) (he : ∀ a ∈ as, p a = true → me (st a) = .ok (f a) (st a)) :
    mLc vs mi g mt me ρ0 = .ok (.lst ((as.filter p).map f)) ρ := by
  obtain ⟨ρ'', e1, e2⟩ := lc_gen (f := f) (p := p) hw as ρ hg ht he rfl
  rw [mLc_ap, hi, bind_ok, e1]
  have hl : ((as.filter p).map f).length ≤ sizeLine := by rw [List.length_map]; exact Nat.le_trans (List.length_filter_le _ _) hz
  simp only [hl, if_true, restE_wipe e2]
theorem mLc_map {as : List α} (hi : mi ρ0 = .ok (as.map enc) ρ) (hz : as.length ≤ sizeLine) (hw : ∀ a, wipeE (st a) vs = wipeE ρ vs) (hg : ∀ a ∈ as, g (enc a) (wipeE ρ vs) = .ok () (st a)) (he : ∀ a ∈ as, me (st a) = .ok (f a) (st a)) :
    mLc vs mi g mYes me ρ0 = .ok (.lst (as.map f)) ρ := by
  have := mLc_filt (p := fun _ => true) (f := f) hi hz hw hg (mt := mYes) (fun _ _ => rfl) (fun a ha _ => he a ha)
  have e : as.filter (fun _ => true) = as := List.filter_eq_self.mpr fun _ _ => rfl
  rw [e] at this
  exact this
variable {σ : Type} {mb : MS} {J : List α → σ → En → Prop} {F : σ → α → σ}
end
def Pd : Nat → D → Prop
  | _, .int _ => True
  | _, .non => True
  | _, .str x => PyData.canLay0 (.str x) = true
  | n + 1, .tup l => ∀ d ∈ l, Pd n d
  | n + 1, .lst l => ∀ d ∈ l, Pd n d
  | _, _ => False
theorem pyAll_nil : pyAll [] = some [] := by unfold pyAll; rfl
theorem py_all {n : Nat} (ih : ∀ d, Pd n d → ∃ x, d.py = some x ∧ x.canLay0 = true ∧ x.depth ≤ n + 1) : ∀ l : List D, (∀ d ∈ l, Pd n d) → ∃ xs, pyAll l = some xs ∧ PyData.canLayAll0 xs = true ∧ PyData.depthAll xs ≤ n + 1
  | [], _ => ⟨[], by unfold pyAll; rfl, rfl, by simp [PyData.depthAll]⟩
  | d :: l, h => by
    obtain ⟨x, e1, e2, e3⟩ := ih d (h d List.mem_cons_self)
    obtain ⟨xs, f1, f2, f3⟩ := py_all ih l fun z hz => h z (List.mem_cons_of_mem _ hz)
    refine ⟨x :: xs, by unfold pyAll; rw [e1, f1]; rfl, by simp [PyData.canLayAll0, e2, f2], ?_⟩
    simp only [PyData.depthAll]
    omega
theorem Pd.py : ∀ (n : Nat) (d : D), Pd n d → ∃ x, d.py = some x ∧ x.canLay0 = true ∧ x.depth ≤ n + 1
  | n, .int i, _ => ⟨.int i, by unfold D.py; rfl, rfl, by simp [PyData.depth]⟩
  | n, .non, _ => ⟨.none, by unfold D.py; rfl, rfl, by simp [PyData.depth]⟩
  | n, .str x, h => ⟨.str x, by unfold D.py; rfl, by unfold Pd at h; exact h, by simp [PyData.depth]⟩
  | n + 1, .tup l, h => by
    unfold Pd at h
    obtain ⟨xs, e1, e2, e3⟩ := py_all (Pd.py n) l h
    refine ⟨.tuple xs, by unfold D.py; rw [e1]; rfl, by unfold PyData.canLay0; exact e2, ?_⟩
    simp only [PyData.depth]
    omega
  | n + 1, .lst l, h => by
    unfold Pd at h
    obtain ⟨xs, e1, e2, e3⟩ := py_all (Pd.py n) l h
    refine ⟨.list xs, by unfold D.py; rw [e1]; rfl, by unfold PyData.canLay0; exact e2, ?_⟩
    simp only [PyData.depth]
    omega
  | 0, .tup l, h => by unfold Pd at h; exact h.elim
  | 0, .lst l, h => by unfold Pd at h; exact h.elim
  | 0, .bl _, h => by unfold Pd at h; exact h.elim
  | n + 1, .bl _, h => by unfold Pd at h; exact h.elim
  | 0, .scr _, h => by unfold Pd at h; exact h.elim
  | n + 1, .scr _, h => by unfold Pd at h; exact h.elim
  | 0, .fn _, h => by unfold Pd at h; exact h.elim
  | n + 1, .fn _, h => by unfold Pd at h; exact h.elim
  | 0, .obj _ _, h => by unfold Pd at h; exact h.elim
  | n + 1, .obj _ _, h => by unfold Pd at h; exact h.elim
  | 0, .exn _ _, h => by unfold Pd at h; exact h.elim
  | n + 1, .exn _ _, h => by unfold Pd at h; exact h.elim
  | 0, .dct _ _ _, h => by unfold Pd at h; exact h.elim
  | n + 1, .dct _ _ _, h => by unfold Pd at h; exact h.elim
theorem py_tup {l : List D} {y : PyData} (e : D.py (.tup l) = some y) : ∃ ys, y = .tuple ys ∧ pyAll l = some ys := by
  unfold D.py at e
  cases h : pyAll l with
  | none => rw [h] at e; cases e
  | some z => rw [h] at e; cases e; exact ⟨z, rfl, rfl⟩
theorem py_lst {l : List D} {y : PyData} (e : D.py (.lst l) = some y) : ∃ ys, y = .list ys ∧ pyAll l = some ys := by
  unfold D.py at e
  cases h : pyAll l with
  | none => rw [h] at e; cases e
  | some z => rw [h] at e; cases e; exact ⟨z, rfl, rfl⟩
theorem py_int {i : Int} {y : PyData} (e : D.py (.int i) = some y) : y = .int i := by unfold D.py at e; cases e; rfl
theorem py_non {y : PyData} (e : D.py .non = some y) : y = .none := by unfold D.py at e; cases e; rfl
theorem py_str {i : Str} {y : PyData} (e : D.py (.str i) = some y) : y = .str i := by unfold D.py at e; cases e; rfl
theorem py_cons {d : D} {l : List D} {y : List PyData} (e : pyAll (d :: l) = some y) : ∃ z zs, y = z :: zs ∧ d.py = some z ∧ pyAll l = some zs := by
  unfold pyAll at e
  cases h : d.py with
  | none => rw [h] at e; cases e
  | some z =>
    cases h2 : pyAll l with
    | none => rw [h, h2] at e; cases e
    | some zs => rw [h, h2] at e; cases e; exact ⟨z, zs, rfl, rfl, rfl⟩
theorem py_nil {y : List PyData} (e : pyAll [] = some y) : y = [] := by unfold pyAll at e; cases e; rfl
def EqvOk (n : Nat) : Prop := ∀ (m : Nat) (a b : D) (x y : PyData), Pd n a → Pd m b → a.py = some x → b.py = some y → (PyData.eqv x y = true ↔ a = b)
theorem eqvAll_pd {n : Nat} (ih : EqvOk n) (m : Nat) : ∀ (a b : List D) (x y : List PyData), (∀ d ∈ a, Pd n d) → (∀ d ∈ b, Pd m d) → pyAll a = some x → pyAll b = some y → (PyData.eqvAll x y = true ↔ a = b)
  | [], [], x, y, _, _, ea, eb => by rw [py_nil ea, py_nil eb]; simp [PyData.eqvAll]
  | [], b :: bs, x, y, _, hb, ea, eb => by
    obtain ⟨z, zs, rfl, _⟩ := py_cons eb
    rw [py_nil ea]; simp [PyData.eqvAll]
  | a :: as, [], x, y, _, hb, ea, eb => by
    obtain ⟨z, zs, rfl, _⟩ := py_cons ea
    rw [py_nil eb]; simp [PyData.eqvAll]
  | a :: as, b :: bs, x, y, ha, hb, ea, eb => by
    obtain ⟨z, zs, rfl, h, h2⟩ := py_cons ea
    obtain ⟨z', zs', rfl, h3, h4⟩ := py_cons eb
    have e1 := ih m a b z z' (ha a List.mem_cons_self) (hb b List.mem_cons_self) h h3
    have e2 := eqvAll_pd ih m as bs zs zs' (fun d hd => ha d (List.mem_cons_of_mem _ hd)) (fun d hd => hb d (List.mem_cons_of_mem _ hd)) h2 h4
    simp only [PyData.eqvAll, Bool.and_eq_true, List.cons.injEq]
    rw [e1, e2]
theorem pd_cases {n : Nat} {d : D} (h : Pd n d) : (∃ i, d = .int i) ∨ d = .non ∨ (∃ z, d = .str z) ∨ (∃ m l, n = m + 1 ∧ d = .tup l ∧ ∀ x ∈ l, Pd m x) ∨ (∃ m l, n = m + 1 ∧ d = .lst l ∧ ∀ x ∈ l, Pd m x) := by
  cases d with
  | int i => exact .inl ⟨i, rfl⟩
  | non => exact .inr (.inl rfl)
  | str z => exact .inr (.inr (.inl ⟨z, rfl⟩))
  | tup l =>
    cases n with
    | zero => unfold Pd at h; exact h.elim
    | succ n => unfold Pd at h; exact .inr (.inr (.inr (.inl ⟨n, l, rfl, rfl, h⟩)))
  | lst l =>
    cases n with
    | zero => unfold Pd at h; exact h.elim
    | succ n => unfold Pd at h; exact .inr (.inr (.inr (.inr ⟨n, l, rfl, rfl, h⟩)))
  | bl b => cases n <;> (unfold Pd at h; exact h.elim)
  | scr b => cases n <;> (unfold Pd at h; exact h.elim)
  | fn b => cases n <;> (unfold Pd at h; exact h.elim)
  | obj b c => cases n <;> (unfold Pd at h; exact h.elim)
  | exn b c => cases n <;> (unfold Pd at h; exact h.elim)
  | dct b c d => cases n <;> (unfold Pd at h; exact h.elim)
theorem eqv_pd : ∀ n, EqvOk n := by
  intro n
  induction n with
  | zero =>
    intro m a b x y ha hb ea eb
    rcases pd_cases ha with ⟨i, rfl⟩ | rfl | ⟨i, rfl⟩ | ⟨m', l, e, _⟩ | ⟨m', l, e, _⟩
    case inr.inr.inr.inl => omega
    case inr.inr.inr.inr => omega
    all_goals first | (have ex := py_int ea) | (have ex := py_non ea) | (have ex := py_str ea)
    all_goals subst ex
    all_goals
      rcases pd_cases hb with ⟨j, rfl⟩ | rfl | ⟨j, rfl⟩ | ⟨m', l, e, rfl, _⟩ | ⟨m', l, e, rfl, _⟩
    all_goals first
      | (obtain ⟨ys, rfl, _⟩ := py_tup eb) | (obtain ⟨ys, rfl, _⟩ := py_lst eb) | (have ey := py_int eb; subst ey) | (have ey := py_non eb; subst ey) | (have ey := py_str eb; subst ey)
    all_goals simp [PyData.eqv]
  | succ n ih =>
    intro m a b x y ha hb ea eb
    rcases pd_cases ha with ⟨i, rfl⟩ | rfl | ⟨i, rfl⟩ | ⟨m', l, e, rfl, hl⟩ | ⟨m', l, e, rfl, hl⟩
    case inr.inr.inr.inl =>
      obtain rfl : m' = n := by omega
      obtain ⟨xs, rfl, hx⟩ := py_tup ea
      rcases pd_cases hb with ⟨j, rfl⟩ | rfl | ⟨j, rfl⟩ | ⟨m2, l2, e2, rfl, hl2⟩ | ⟨m2, l2, e2, rfl, hl2⟩
      case inr.inr.inr.inl =>
        obtain ⟨ys, rfl, hy⟩ := py_tup eb
        simp only [PyData.eqv, D.tup.injEq]
        exact eqvAll_pd ih m2 l l2 xs ys hl hl2 hx hy
      all_goals first
        | (obtain ⟨ys, rfl, _⟩ := py_lst eb) | (have ey := py_int eb; subst ey) | (have ey := py_non eb; subst ey) | (have ey := py_str eb; subst ey)
      all_goals simp [PyData.eqv]
    case inr.inr.inr.inr =>
      obtain rfl : m' = n := by omega
      obtain ⟨xs, rfl, hx⟩ := py_lst ea
      rcases pd_cases hb with ⟨j, rfl⟩ | rfl | ⟨j, rfl⟩ | ⟨m2, l2, e2, rfl, hl2⟩ | ⟨m2, l2, e2, rfl, hl2⟩
      case inr.inr.inr.inr =>
        obtain ⟨ys, rfl, hy⟩ := py_lst eb
        simp only [PyData.eqv, D.lst.injEq]
        exact eqvAll_pd ih m2 l l2 xs ys hl hl2 hx hy
      all_goals first
        | (obtain ⟨ys, rfl, _⟩ := py_tup eb) | (have ey := py_int eb; subst ey) | (have ey := py_non eb; subst ey) | (have ey := py_str eb; subst ey)
      all_goals simp [PyData.eqv]
    all_goals first | (have ex := py_int ea) | (have ex := py_non ea) | (have ex := py_str ea)
    all_goals subst ex
    all_goals
      rcases pd_cases hb with ⟨j, rfl⟩ | rfl | ⟨j, rfl⟩ | ⟨m', l, e, rfl, _⟩ | ⟨m', l, e, rfl, _⟩
    all_goals first
      | (obtain ⟨ys, rfl, _⟩ := py_tup eb) | (obtain ⟨ys, rfl, _⟩ := py_lst eb) | (have ey := py_int eb; subst ey) | (have ey := py_non eb; subst ey) | (have ey := py_str eb; subst ey)
    all_goals simp [PyData.eqv]
section
variable {n m : Nat} {a b : D} {P : Prop} [Decidable P]
theorem eqD_pd (ha : Pd n a) (hb : Pd m b) (hn : n ≤ 60) (hm : m ≤ 60) (h : a = b ↔ P) : eqD a b = some (decide P) := by
  obtain ⟨x, e1, e2, e3⟩ := ha.py
  obtain ⟨y, f1, f2, f3⟩ := hb.py
  have sx : SeqAt.shaped x = true := by unfold SeqAt.shaped; rw [Bool.and_eq_true]; exact ⟨e2, decide_eq_true (by omega)⟩
  have sy : SeqAt.shaped y = true := by unfold SeqAt.shaped; rw [Bool.and_eq_true]; exact ⟨f2, decide_eq_true (by omega)⟩
  have key := eqv_pd n m a b x y ha hb e1 f1
  have kd : PyData.eqv x y = decide P := by
    rw [Bool.eq_iff_iff, key, decide_eq_true_iff, h]
  unfold eqD
  split
  · unfold D.py at e1 f1; cases e1; cases f1; rw [← kd]; simp only [PyData.eqv] <;> first | rfl | (rw [Bool.eq_iff_iff]; simp)
  · unfold D.py at e1 f1; cases e1; cases f1; rw [← kd]; simp only [PyData.eqv] <;> first | rfl | (rw [Bool.eq_iff_iff]; simp)
  · unfold D.py at e1 f1; cases e1; cases f1; rw [← kd]; simp only [PyData.eqv] <;> first | rfl | (rw [Bool.eq_iff_iff]; simp)
  · unfold D.py at e1 f1; cases e1; cases f1; rw [← kd]; simp only [PyData.eqv] <;> first | rfl | (rw [Bool.eq_iff_iff]; simp)
  · rw [e1, f1]
    show (if _ then _ else _) = _
    rw [if_pos ⟨sx, sy⟩, kd]
theorem gEq_pd (ha : Pd n a) (hb : Pd m b) (hn : n ≤ 60) (hm : m ≤ 60) (h : a = b ↔ P) : gEq a b = some (.bl (decide P)) := by
  unfold gEq
  rw [eqD_pd ha hb hn hm h]
  rfl
theorem gNe_pd (ha : Pd n a) (hb : Pd m b) (hn : n ≤ 60) (hm : m ≤ 60) (h : a = b ↔ P) : gNe a b = some (.bl (!decide P)) := by
  unfold gNe
  rw [eqD_pd ha hb hn hm h]
  rfl
theorem any_pd {x : PyData} (ha : Pd n a) (ea : a.py = some x) : ∀ (l : List D) (ys : List PyData), (∀ d ∈ l, Pd m d) → pyAll l = some ys → ((ys.any fun z => PyData.eqv z x) = true ↔ a ∈ l)
  | [], ys, _, e => by unfold pyAll at e; cases e; simp
  | d :: l, ys, h, e => by
    unfold pyAll at e
    cases h1 : d.py with
    | none => rw [h1] at e; cases e
    | some z =>
      cases h2 : pyAll l with
      | none => rw [h1, h2] at e; cases e
      | some zs =>
        rw [h1, h2] at e
        cases e
        have i1 := eqv_pd m n d a z x (h d List.mem_cons_self) ha h1 ea
        have i2 := any_pd ha ea l zs (fun w hw => h w (List.mem_cons_of_mem _ hw)) h2
        rw [List.any_cons, Bool.or_eq_true, List.mem_cons, i1, i2]
        exact ⟨fun w => w.imp Eq.symm id, fun w => w.imp Eq.symm id⟩
theorem inD_pd {l : List D} {c : D} (hc : c = .lst l ∨ c = .tup l) (ha : Pd n a) (hb : ∀ d ∈ l, Pd m d) (hn : n ≤ 60) (hm : m ≤ 60) (h : a ∈ l ↔ P) : inD a c = some (decide P) := by
  obtain ⟨x, e1, e2, e3⟩ := ha.py
  obtain ⟨ys, f1, f2, f3⟩ := py_all (Pd.py m) l hb
  have sx : SeqAt.shaped x = true := by unfold SeqAt.shaped; rw [Bool.and_eq_true]; exact ⟨e2, decide_eq_true (by omega)⟩
  have sy : SeqAt.shaped (.list ys) = true := by
    unfold SeqAt.shaped
    rw [Bool.and_eq_true]
    exact ⟨by unfold PyData.canLay0; exact f2, decide_eq_true (by simp only [PyData.depth]; omega)⟩
  have kd : (ys.any fun z => PyData.eqv z x) = decide P := by
    rw [Bool.eq_iff_iff, any_pd ha e1 l ys hb f1, decide_eq_true_iff, h]
  have key : inD a c = match a.py, pyAll l with
      | some x, some ys => if SeqAt.shaped x = true ∧ SeqAt.shaped (.list ys) = true then some (ys.any fun z => PyData.eqv z x) else none
      | _, _ => none := by
    rcases hc with rfl | rfl <;> cases a <;> rfl
  rw [key, e1, f1]
  show (if _ then _ else _) = _
  rw [if_pos ⟨sx, sy⟩, kd]
theorem gIn_pd {l : List D} {c : D} (hc : c = .lst l ∨ c = .tup l) (ha : Pd n a) (hb : ∀ d ∈ l, Pd m d) (hn : n ≤ 60) (hm : m ≤ 60) (h : a ∈ l ↔ P) : gIn a c = some (.bl (decide P)) := by
  unfold gIn
  rw [inD_pd hc ha hb hn hm h]
  rfl
theorem gNotIn_pd {l : List D} {c : D} (hc : c = .lst l ∨ c = .tup l) (ha : Pd n a) (hb : ∀ d ∈ l, Pd m d) (hn : n ≤ 60) (hm : m ≤ 60) (h : a ∈ l ↔ P) : gNotIn a c = some (.bl (!decide P)) := by
  unfold gNotIn
  rw [inD_pd hc ha hb hn hm h]
  rfl
end
theorem asBls_map {α : Type} (f : α → Bool) : ∀ l : List α, asBls (l.map fun a => .bl (f a)) = some (l.map f)
  | [] => rfl
  | a :: l => by
    rw [List.map_cons]
    unfold asBls
    rw [asBls_map f l]
    rfl
theorem gAll_map {α : Type} (f : α → Bool) (l : List α) : gAll [.lst (l.map fun a => .bl (f a))] = some (.bl (l.all f)) := by
  show (asBls _).map _ = _
  rw [asBls_map]
  simp [List.all_map]
theorem gAny_map {α : Type} (f : α → Bool) (l : List α) : gAny [.lst (l.map fun a => .bl (f a))] = some (.bl (l.any f)) := by
  show (asBls _).map _ = _
  rw [asBls_map]
  simp [List.any_map]
end Q
namespace Q
open DL L2 PySem PySem.Spec PyProof.Rows
def pl (p : List Int) : D := .tup (p.map .int)
def Sq (d : D) (l : List D) : Prop := d = .tup l ∨ d = .lst l
theorem Sq.tup (l : List D) : Sq (.tup l) l := .inl rfl
theorem Sq.lst (l : List D) : Sq (.lst l) l := .inr rfl
section
variable {d : D} {l : List D} (h : Sq d l)
include h
theorem Sq.iter : gIter d = some l := by rcases h with rfl | rfl <;> rfl
theorem Sq.len : gLen [d] = some (.int l.length) := by rcases h with rfl | rfl <;> rfl
theorem Sq.gtup : gTuple [d] = some (.tup l) := by rcases h with rfl | rfl <;> rfl
theorem Sq.glst : gList [d] = some (.lst l) := by rcases h with rfl | rfl <;> rfl
theorem Sq.sl (lo hi : Option Int) : ∃ z, gSl d lo hi = some z ∧ Sq z (DL.cutD l lo hi) := by rcases h with rfl | rfl <;> exact ⟨_, rfl, by first | exact .inl rfl | exact .inr rfl⟩
theorem Sq.ix (i : Int) : gIx d (.int i) = L2.atI l i := by rcases h with rfl | rfl <;> rfl
end
theorem cut_to (l : List D) (n : Nat) : DL.cutD l none (some (n : Int)) = l.take n := by
  have h0 : ¬ ((n : Int) < 0) := by omega
  unfold DL.cutD HT.sIx
  simp only [h0, if_false, Int.toNat_natCast, List.drop_zero, Nat.sub_zero]
  by_cases h : n ≤ l.length
  · simp [Nat.min_eq_left h]
  · simp [Nat.min_eq_right (show l.length ≤ n by omega), List.take_of_length_le (show l.length ≤ n by omega)]
theorem pd_ints (n : Nat) (xs : List Int) : Pd (n + 1) (pl xs) := by
  unfold pl Pd
  intro d hd
  obtain ⟨a, _, rfl⟩ := List.mem_map.mp hd
  cases n <;> (unfold Pd; trivial)
theorem map_int_inj {a b : List Int} : a.map D.int = b.map D.int ↔ a = b := by
  constructor
  · intro h
    exact (List.map_inj_right (fun x y z => by simpa using z)).mp h
  · intro h; rw [h]
theorem pl_inj {a b : List Int} : pl a = pl b ↔ a = b := by
  unfold pl
  rw [D.tup.injEq, map_int_inj]
abbrev BN : Xn := ⟨"BadNumber", []⟩
abbrev NPl : Xn := ⟨"NotPlanes", []⟩
theorem v_letters (n : Int) (ρ : En) : (Fcheck_letters [.int n]).R ρ = if 1 ≤ n ∧ n ≤ 4 then .ok .non ρ else .ex BN ρ := by
  by_cases h1 : 1 ≤ n
  · by_cases h2 : n ≤ 4
    · simp -implicitDefEqProofs [Fcheck_letters, runM, mcheck_letters, pad, mChain, h1, h2]
    · simp -implicitDefEqProofs [Fcheck_letters, runM, mcheck_letters, pad, mChain, h1, h2]
  · simp -implicitDefEqProofs [Fcheck_letters, runM, mcheck_letters, pad, mChain, h1]
def gcdL (xs : List Int) (g : Nat) : Nat := xs.foldl (fun g a => Int.gcd g a) g
def isPl (n : Nat) (xs : List Int) : Bool := decide (xs.length = n + 1) && xs.all (fun a => decide (a.natAbs ≤ 1000)) && decide (gcdL xs 0 = 1) && (xs.take n).any (fun a => decide (a ≠ 0))
theorem abs_le (a : Int) (k : Nat) : ((if a < 0 then -a else a) ≤ (k : Int)) ↔ a.natAbs ≤ k := by rw [abs_cast]; omega
theorem v_isPlane {n : Nat} (h1 : 1 ≤ n) (h4 : n ≤ 4) {xs : List Int} {d : D} (hd : Sq d (xs.map .int)) (hx : ∀ a ∈ xs, a.natAbs < 2 ^ 8000) (hl : xs.length ≤ 1000) (ρ : En) : (Fis_plane [.int n, d]).R ρ = .ok (.bl (isPl n xs)) ρ := by
  have sz : sizeLine = 16777216 := by decide
  have hc := fun ρ => v_letters (n : Int) ρ
  have hc1 : (1 : Int) ≤ n := by omega
  have hc2 : (n : Int) ≤ 4 := by omega
  simp only [hc1, hc2, and_self, if_true] at hc
  have e1 : mLc [2] (mIter (mVar 1)) (mgName 2) mYes mis_plane_e1 [some (.int n), some d, none, none] = .ok (.lst (xs.map fun a => .bl (decide (a.natAbs ≤ 1000)))) [some (.int n), some d, none, none] := by
    refine mLc_map (as := xs) (enc := .int) (st := fun a => [some (.int n), some d, some (.int a), none]) (f := fun a => .bl (decide (a.natAbs ≤ 1000))) ?_ (by omega) (fun _ => rfl) (fun a ha => ?_) (fun a ha => ?_)
    · simp [hd.iter]
    · rfl
    · have := abs_le a 1000
      simp -implicitDefEqProofs [mis_plane_e1]
      exact this
  have e2 : ∀ o, ∃ o', loopL (mgName 2) mis_plane_b4 (xs.map .int) [some (.int n), some d, o, some (.int ((0 : Nat) : Int))] = .nx [some (.int n), some d, o', some (.int (gcdL xs 0 : Nat))] := by
    have gen : ∀ (ys : List Int) (g : Nat) (o : Option D), (∀ a ∈ ys, a.natAbs < 2 ^ 8000) → ∃ o', loopL (mgName 2) mis_plane_b4 (ys.map .int) [some (.int n), some d, o, some (.int (g : Int))] = .nx [some (.int n), some d, o', some (.int (gcdL ys g : Nat))] := by
      intro ys
      induction ys with
      | nil => exact fun g o _ => ⟨o, rfl⟩
      | cons a ys ih =>
        intro g o hy
        obtain ⟨o', e⟩ := ih (Int.gcd g a) (some (.int a)) fun z hz => hy z (List.mem_cons_of_mem _ hz)
        refine ⟨o', ?_⟩
        have hv := fun ρ => qDivisor_v (g : Int) a (hy a List.mem_cons_self) ρ
        rw [← e_div] at hv
        rw [List.map_cons]
        simp -implicitDefEqProofs [loopL, mis_plane_b4, mCall_R, hv]
        exact e
    exact fun o => gen xs 0 o hx
  obtain ⟨o', e2⟩ := e2 none
  obtain ⟨z, e3, hz⟩ := hd.sl none (some (n : Int))
  rw [cut_to, ← List.map_take] at hz
  have hT : (xs.take n).length ≤ 1000 := by rw [List.length_take]; omega
  unfold isPl
  generalize xs.take n = T at hz hT ⊢
  have e4 : mLc [2] (mIter (mSl (.ex (mVar 1)) mNoP (mPart (mVar 0)))) (mgName 2) mYes mis_plane_e6 [some (.int n), some d, o', some (.int (gcdL xs 0 : Nat))] = .ok (.lst (T.map fun a => .bl (!decide (a = 0)))) [some (.int n), some d, o', some (.int (gcdL xs 0 : Nat))] := by
    refine mLc_map (as := T) (enc := .int) (st := fun a => [some (.int n), some d, some (.int a), some (.int (gcdL xs 0 : Nat))]) (f := fun a => .bl (!decide (a = 0))) ?_ (by omega) (fun _ => rfl) (fun a ha => ?_) (fun a ha => ?_)
    · simp [mSl, evB, rdB, mNoP, mPart, asI, e3, hz.iter]
    · rfl
    · simp -implicitDefEqProofs [mis_plane_e6]
  have q1 : decide ((xs.length : Int) = (n : Int) + 1) = decide (xs.length = n + 1) := by rw [decide_eq_decide]; omega
  have q2 : decide (((gcdL xs 0 : Nat) : Int) = 1) = decide (gcdL xs 0 = 1) := by rw [decide_eq_decide]; omega
  have e2' : loopL (mgName 2) mis_plane_b4 (xs.map .int) [some (.int n), some d, none, some (.int 0)] = _ := e2
  cases b1 : decide (xs.length = n + 1) with
  | false => simp -implicitDefEqProofs [Fis_plane, runM, mis_plane, mis_plane_s0, mis_plane_s2, pad, mCall_R, hc, hd.len, q1, b1]
  | true =>
    cases b2 : xs.all (fun a => decide (a.natAbs ≤ 1000)) with
    | false =>
      have g1 := gAll_map (fun a : Int => decide (a.natAbs ≤ 1000)) xs
      rw [b2] at g1
      simp -implicitDefEqProofs [Fis_plane, runM, mis_plane, mis_plane_s0, mis_plane_s2, pad, mCall_R, hc, hd.len, q1, b1, e1, g1]
    | true =>
      have g1 := gAll_map (fun a : Int => decide (a.natAbs ≤ 1000)) xs
      rw [b2] at g1
      have g2 := gAny_map (fun a : Int => !decide (a = 0)) T
      cases b3 : decide (gcdL xs 0 = 1) with
      | false => simp -implicitDefEqProofs [Fis_plane, runM, mis_plane, mis_plane_s0, mis_plane_s2, mis_plane_s3, mis_plane_s5, mis_plane_s7, pad, mCall_R, hc, hd.len, q1, b1, e1, g1, hd.iter, e2', q2, b3]
      | true =>
        simp -implicitDefEqProofs [Fis_plane, runM, mis_plane, mis_plane_s0, mis_plane_s2, mis_plane_s3, mis_plane_s5, mis_plane_s7, pad, mCall_R, hc, hd.len, q1, b1, e1, g1, hd.iter, e2', q2, b3, e4, g2]
end Q
namespace Q
open DL L2 PySem PySem.Spec PyProof.Rows
def negL (p : List Int) : List Int := p.map fun a => -a
theorem szv : sizeLine = 16777216 := by decide
theorem v_other {xs : List Int} {d : D} (hd : Sq d (xs.map .int)) (hl : xs.length ≤ 1000) (ρ : En) : (Fother_way [d]).R ρ = .ok (pl (negL xs)) ρ := by
  have sz := szv
  have e1 : mLc [1] (mIter (mVar 0)) (mgName 1) mYes (m1 gNeg (mVar 1)) [some d, none] = .ok (.lst (xs.map fun a => .int (-a))) [some d, none] := by
    refine mLc_map (as := xs) (enc := .int) (st := fun a => [some d, some (.int a)]) (f := fun a => .int (-a)) ?_ (by omega) (fun _ => rfl) (fun a ha => rfl) (fun a ha => ?_)
    · simp [hd.iter]
    · simp
  simp -implicitDefEqProofs [Fother_way, runM, mother_way, pad, e1, gTuple, pl, negL]
def sepB (ps : List (List Int)) (at_ : Nat) (row : List Int) : Bool := (ps.take at_).any fun o => decide (row = o) || decide (negL row = o)
def okPls (n : Nat) (ps : List (List Int)) : Bool := decide (ps.length ≤ 12) && ps.all (isPl n) && ps.zipIdx.all fun x => !sepB ps x.2 x.1
theorem encL (ps : List (List Int)) : (enumL (ps.map pl)) = ps.zipIdx.map fun x => .tup [.int (x.2 : Nat), pl x.1] := by
  unfold enumL
  rw [List.zipIdx_map, List.map_map]
  rfl
theorem v_arePls {n : Nat} (h1 : 1 ≤ n) (h4 : n ≤ 4) {ps : List (List Int)} {d : D} (hd : Sq d (ps.map pl)) (hx : ∀ p ∈ ps, (∀ a ∈ p, a.natAbs < 2 ^ 8000) ∧ p.length ≤ 1000) (hl : ps.length ≤ 1000) (ρ : En) : (Fare_planes [.int n, d]).R ρ = .ok (.bl (okPls n ps)) ρ := by
  have sz := szv
  have e1 : mLc [2] (mIter (mVar 1)) (mgName 2) mYes mare_planes_e0 [some (.int n), some d, none, none, none] = .ok (.lst (ps.map fun p => .bl (isPl n p))) [some (.int n), some d, none, none, none] := by
    refine mLc_map (as := ps) (enc := pl) (st := fun p => [some (.int n), some d, some (pl p), none, none]) (f := fun p => .bl (isPl n p)) ?_ (by omega) (fun _ => rfl) (fun a ha => rfl) (fun a ha => ?_)
    · simp [hd.iter]
    · simp -implicitDefEqProofs [mare_planes_e0, mCall_R, v_isPlane h1 h4 (Sq.tup _) (hx a ha).1 (hx a ha).2, pl]
  have g1 := gAll_map (fun p : List Int => isPl n p) ps
  -- the loop
  have body : ∀ (x : List Int × Nat) (o2 o3 o4 : Option D), x ∈ ps.zipIdx → ∃ r, mgTup 2 (mgCons (mgName 3) (mgCons (mgName 2) mgNil)) (.tup [.int (x.2 : Nat), pl x.1]) [some (.int n), some d, o2, o3, o4] = .ok () r ∧
      r = [some (.int n), some d, some (pl x.1), some (.int (x.2 : Nat)), o4] ∧ mare_planes_b2 r = if sepB ps x.2 x.1 = true then .rt (.bl false) r else .nx r := by
    intro x o2 o3 o4 hxm
    refine ⟨_, ?_, rfl, ?_⟩
    · simp
    · have hm : x.1 ∈ ps := by
        have := List.mem_zipIdx hxm
        obtain ⟨_, _, h⟩ := this
        rw [h]
        exact List.getElem_mem _
      obtain ⟨z, e3, hz⟩ := hd.sl none (some (x.2 : Int))
      rw [cut_to, ← List.map_take] at hz
      have hT : (ps.take x.2).length ≤ 1000 := by rw [List.length_take]; omega
      unfold sepB
      generalize ps.take x.2 = T at hz hT ⊢
      have e4 : mLc [4] (mIter (mSl (.ex (mVar 1)) mNoP (mPart (mVar 3)))) (mgName 4) mYes mare_planes_e1 [some (.int n), some d, some (pl x.1), some (.int (x.2 : Nat)), o4] = .ok (.lst (T.map fun o => .bl (decide (x.1 = o) || decide (negL x.1 = o)))) [some (.int n), some d, some (pl x.1), some (.int (x.2 : Nat)), o4] := by
        refine mLc_map (as := T) (enc := pl) (st := fun o => [some (.int n), some d, some (pl x.1), some (.int (x.2 : Nat)), some (pl o)]) (f := fun o => .bl (decide (x.1 = o) || decide (negL x.1 = o))) ?_ (by omega) (fun _ => rfl) (fun a ha => rfl) (fun o ho => ?_)
        · simp [mSl, evB, rdB, mNoP, mPart, asI, e3, hz.iter]
        · have q1 := gEq_pd (n := 1) (m := 1) (a := pl x.1) (b := pl o) (P := x.1 = o) (pd_ints 0 _) (pd_ints 0 _) (by omega) (by omega) pl_inj
          have q2 := gEq_pd (n := 1) (m := 1) (a := pl (negL x.1)) (b := pl o) (P := negL x.1 = o) (pd_ints 0 _) (pd_ints 0 _) (by omega) (by omega) pl_inj
          have q3 : gTuple [pl x.1] = some (pl x.1) := rfl
          have q4 := fun ρ => v_other (Sq.tup (x.1.map .int)) (hx _ hm).2 ρ
          cases hb : decide (x.1 = o) with
          | true => rw [hb] at q1; simp -implicitDefEqProofs [mare_planes_e1, mOr, q3, q1]
          | false =>
            rw [hb] at q1
            have q4' : ∀ ρ, (Fother_way [pl x.1]).R ρ = .ok (pl (negL x.1)) ρ := q4
            simp -implicitDefEqProofs [mare_planes_e1, mOr, mCall_R, q3, q1, q4', q2]
      have g2 := gAny_map (fun o : List Int => decide (x.1 = o) || decide (negL x.1 = o)) T
      cases hb : T.any (fun o => decide (x.1 = o) || decide (negL x.1 = o)) with
      | true => rw [hb] at g2; simp -implicitDefEqProofs [mare_planes_b2, e4, g2]
      | false => rw [hb] at g2; simp -implicitDefEqProofs [mare_planes_b2, e4, g2]
  have loop : ∀ (xs : List (List Int × Nat)) (o2 o3 o4 : Option D), (∀ x ∈ xs, x ∈ ps.zipIdx) →
      (xs.all (fun x => !sepB ps x.2 x.1) = true → ∃ o2' o3' o4', loopL (mgTup 2 (mgCons (mgName 3) (mgCons (mgName 2) mgNil))) mare_planes_b2 (xs.map fun x => .tup [.int (x.2 : Nat), pl x.1]) [some (.int n), some d, o2, o3, o4] = .nx [some (.int n), some d, o2', o3', o4']) ∧
      (xs.all (fun x => !sepB ps x.2 x.1) = false → ∃ r, loopL (mgTup 2 (mgCons (mgName 3) (mgCons (mgName 2) mgNil))) mare_planes_b2 (xs.map fun x => .tup [.int (x.2 : Nat), pl x.1]) [some (.int n), some d, o2, o3, o4] = .rt (.bl false) r) := by
    intro xs
    induction xs with
    | nil => exact fun o2 o3 o4 _ => ⟨fun _ => ⟨o2, o3, o4, rfl⟩, fun h => by cases h⟩
    | cons x xs ih =>
      intro o2 o3 o4 hm
      obtain ⟨r, b1, rfl, b3⟩ := body x o2 o3 o4 (hm x List.mem_cons_self)
      obtain ⟨i1, i2⟩ := ih (some (pl x.1)) (some (.int (x.2 : Nat))) o4 fun z hz => hm z (List.mem_cons_of_mem _ hz)
      rw [List.map_cons, List.all_cons]
      cases hs : sepB ps x.2 x.1 with
      | true =>
        rw [hs] at b3
        refine ⟨fun h => by simp at h, fun _ => ⟨_, by simp only [loopL, b1, b3, if_true]; rfl⟩⟩
      | false =>
        rw [hs] at b3
        refine ⟨fun h => ?_, fun h => ?_⟩
        · obtain ⟨a, b, c, e⟩ := i1 (by simpa using h)
          exact ⟨a, b, c, by simp only [loopL, b1, b3, Bool.false_eq_true, if_false]; exact e⟩
        · obtain ⟨a, e⟩ := i2 (by simpa using h)
          exact ⟨a, by simp only [loopL, b1, b3, Bool.false_eq_true, if_false]; exact e⟩
  obtain ⟨l1, l2⟩ := loop ps.zipIdx none none none fun _ h => h
  have q0 : decide ((12 : Int) < (ps.length : Int)) = !decide (ps.length ≤ 12) := by
    rw [Bool.eq_iff_iff]; simp; omega
  have ge : gEnumS [d] = some (ps.zipIdx.map fun x => .tup [.int (x.2 : Nat), pl x.1]) := by
    show (gIter d).map enumL = _
    rw [hd.iter, Option.map_some, encL]
  unfold okPls
  cases b1 : decide (ps.length ≤ 12) with
  | false => simp -implicitDefEqProofs [Fare_planes, runM, mare_planes, pad, hd.len, q0, b1]
  | true =>
    cases b2 : ps.all (isPl n) with
    | false =>
      rw [b2] at g1
      simp -implicitDefEqProofs [Fare_planes, runM, mare_planes, pad, hd.len, q0, b1, e1, g1]
    | true =>
      rw [b2] at g1
      cases b3 : ps.zipIdx.all (fun x => !sepB ps x.2 x.1) with
      | true =>
        obtain ⟨o2, o3, o4, e⟩ := l1 b3
        simp -implicitDefEqProofs [Fare_planes, runM, mare_planes, pad, hd.len, q0, b1, e1, g1, ge, e]
      | false =>
        obtain ⟨r, e⟩ := l2 b3
        simp -implicitDefEqProofs [Fare_planes, runM, mare_planes, pad, hd.len, q0, b1, e1, g1, ge, e]
end Q
namespace Q
open DL L2 PySem PySem.Spec PyProof.Rows
abbrev S := SX.S
abbrev sD (l : List Nat) : D := .str (S l)
theorem S_inj {a b : List Nat} (h : S a = S b) : a = b := by
  have := congrArg (fun x : Str => x.cps.toList) h
  simpa [S, SX.S] using this
theorem S_of (x : Str) : x = S x.cps.toList := by
  cases x with
  | mk c => rfl
theorem gEq_S (a b : List Nat) : gEq (sD a) (sD b) = some (.bl (decide (a = b))) := by
  show some (D.bl (decide (S a = S b))) = _
  congr 2
  rw [decide_eq_decide]
  exact ⟨S_inj, fun h => by rw [h]⟩
theorem gNe_S (a b : List Nat) : gNe (sD a) (sD b) = some (.bl (!decide (a = b))) := by
  show some (D.bl (!decide (S a = S b))) = _
  congr 3
  rw [decide_eq_decide]
  exact ⟨S_inj, fun h => by rw [h]⟩
end Q
namespace Q
open DL L2 PySem PySem.Spec PyProof.Rows
def PO (n : Nat) (ps : List (List Int)) : D := .obj "Planes" [("n", .int n), ("kept", .tup (ps.map pl))]
theorem fld_n {n : Nat} {ps : List (List Int)} : gFld (isC ["Planes"]) "n" (PO n ps) = some (.int n) := rfl
theorem fld_kept {n : Nat} {ps : List (List Int)} : gFld (isC ["Planes"]) "kept" (PO n ps) = some (.tup (ps.map pl)) := rfl
def Sm (ps : List (List Int)) : Prop := ps.length ≤ 1000 ∧ ∀ p ∈ ps, (∀ a ∈ p, a.natAbs < 2 ^ 8000) ∧ p.length ≤ 1000
theorem v_init {n : Int} {ps : List (List Int)} {d : D} (hd : Sq d (ps.map pl)) (h : Sm ps) : FPlanes_init [.obj "Planes" [], .int n, d] = if 1 ≤ n ∧ n ≤ 4 then (if okPls n.toNat ps = true then .rt .non (PO n.toNat ps) else .ex NPl (.obj "Planes" [])) else .ex BN (.obj "Planes" []) := by
  have hc := fun ρ => v_letters n ρ
  by_cases hn : 1 ≤ n ∧ n ≤ 4
  · simp only [hn, and_self, if_true] at hc
    rw [if_pos hn]
    have en : n = ((n.toNat : Nat) : Int) := by omega
    have ha := fun ρ => v_arePls (n := n.toNat) (by omega) (by omega) hd h.2 h.1 ρ
    rw [← en] at ha
    cases ho : okPls n.toNat ps with
    | true =>
      rw [ho] at ha
      have hk : ¬ (("n" : Str) = ("kept" : Str)) := by decide
      simp -implicitDefEqProofs [FPlanes_init, runM, mPlanes_init, pad, mCall_R, hc, ha, msFld, getO_0, isC, putD, hd.gtup, io0, PO, ← en, hk]
    | false =>
      rw [ho] at ha
      simp -implicitDefEqProofs [FPlanes_init, runM, mPlanes_init, pad, mCall_R, hc, ha, io0]
  · simp only [hn, if_false] at hc
    rw [if_neg hn]
    simp -implicitDefEqProofs [FPlanes_init, runM, mPlanes_init, pad, mCall_R, hc, io0]
theorem v_make {n : Int} {ps : List (List Int)} {d : D} (hd : Sq d (ps.map pl)) (h : Sm ps) {args : MA} {ρ ρ1 : En} (ha : args ρ = .ok [.int n, d] ρ1) : mMake "Planes" FPlanes_init args ρ = if 1 ≤ n ∧ n ≤ 4 then (if okPls n.toNat ps = true then .ok (PO n.toNat ps) ρ1 else .ex NPl ρ1) else .ex BN ρ1 := by
  unfold mMake
  rw [ha, bind_ok, v_init hd h]
  by_cases hn : 1 ≤ n ∧ n ≤ 4
  · simp only [hn, and_self, if_true]
    cases ho : okPls n.toNat ps <;> rfl
  · simp only [hn, if_false]
theorem v_planes (n : Nat) (ps : List (List Int)) (ρ : En) : (FPlanes_planes [PO n ps]).R ρ = .ok (.lst (ps.map pl)) ρ := by
  simp -implicitDefEqProofs [FPlanes_planes, runM, mPlanes_planes, pad, fld_kept, gList]
theorem v_plen (n : Nat) (ps : List (List Int)) : FPlanes_len [PO n ps] = .rt (.int ps.length) (PO n ps) := by
  simp -implicitDefEqProofs [FPlanes_len, runM, mPlanes_len, pad, fld_kept, gLen, io0]
end Q
namespace Q
open DL L2 PySem PySem.Spec PyProof.Rows
theorem atI_nat' (l : List D) (n : Nat) (h : n < l.length) : L2.atI l (n : Int) = some l[n] := by
  unfold L2.atI L2.ixN
  simp [h]
theorem isPl_len {n : Nat} {p : List Int} (h : isPl n p = true) : p.length = n + 1 ∧ (∀ a ∈ p, a.natAbs ≤ 1000) := by
  unfold isPl at h
  simp only [Bool.and_eq_true, decide_eq_true_eq, List.all_eq_true] at h
  exact ⟨h.1.1.1, h.1.1.2⟩
def Pi (k n : Nat) (p : List Int) : Prop := p.length = n + 1 ∧ ∀ a ∈ p, a.natAbs < 2 ^ k
theorem Pi.of {n : Nat} {p : List Int} (h : isPl n p = true) : Pi 10 n p := by
  obtain ⟨h1, h2⟩ := isPl_len h
  exact ⟨h1, fun a ha => Nat.lt_of_le_of_lt (h2 a ha) (by decide)⟩
end Q
namespace Q
open DL L2 PySem PySem.Spec PyProof.Rows
theorem rangeL_enc (n : Nat) : rangeL 0 n = (List.range n).map fun i => D.int (i : Nat) := by
  unfold rangeL
  congr 1
  funext i
  simp
theorem okR_nat {n : Nat} (h : n ≤ 1000000) : okR (n : Int) = true := by
  unfold okR
  simp
  omega
theorem range1 {n : Nat} (h : n ≤ 1000000) : gRange1 [.int (n : Int)] = some ((List.range n).map fun i => D.int (i : Nat)) := by
  rw [gRange1_i, if_pos (okR_nat h), ← rangeL_enc]
  rfl
end Q
namespace Q
open DL L2 PySem PySem.Spec PyProof.Rows
abbrev dl (l : List Int) : D := .lst (l.map D.int)
theorem fm_rng (x : Int) {m : Int} (h : 0 < m) : 0 ≤ x.fmod m ∧ x.fmod m < m := by
  rw [Int.fmod_eq_emod_of_nonneg _ (by omega)]
  exact ⟨Int.emod_nonneg _ (by omega), Int.emod_lt_of_pos _ h⟩
theorem io_next (l : List Int) (r : En) : mCallIo F_law_next 0 mNil (some (dl l) :: r) = .ok (.int (drawI l)) (some (dl l.dropLast) :: r) := by
  rw [mCallIo_ap, getO_0]
  simp -implicitDefEqProofs [getO_0, e_next, qNext_v]
theorem io_next1 (x : Option D) (l : List Int) (r : En) : mCallIo F_law_next 1 mNil (x :: some (dl l) :: r) = .ok (.int (drawI l)) (x :: some (dl l.dropLast) :: r) := by
  rw [mCallIo_ap, getO_1]
  simp -implicitDefEqProofs [getO_1, e_next, qNext_v]
theorem io_1a {F : FN} {d' : D} {l l' : List Int} {x : Option D} {r : En} {args : MA} {ds : List D} (ha : args (x :: some (dl l) :: r) = .ok ds (x :: some (dl l) :: r)) (e : F (dl l :: ds) = .rt d' (dl l')) : mCallIo F 1 args (x :: some (dl l) :: r) = .ok d' (x :: some (dl l') :: r) := by
  rw [mCallIo_ap, getO_1, ha]
  simp -implicitDefEqProofs [getO_1, e]
theorem gMod_p (x : Int) {m : Int} (h : 0 < m) : gMod (.int x) (.int m) = some (.int (x.fmod m)) := gMod_nz (by omega)
section
variable {β : Type} {i : Nat} {me : ME} {P : β → Prop} {enc : β → D} {E : List Int → Option D → En}
theorem lc_io (hs : ∀ l o o', (E l o).set i o' = E l o') (hl : ∀ l o, i < (E l o).length)
    (hm : ∀ l d, ∃ c l', P c ∧ me (E l (some d)) = .ok (enc c) (E l' (some d))) : ∀ (ds : List D) (l : List Int) (o : Option D),
    ∃ (cs : List β) (l' : List Int) (o' : Option D), lcLoop [i] (mgName i) mYes me ds (E l o) = .ok (cs.map enc) (E l' o') ∧ cs.length = ds.length ∧ ∀ c ∈ cs, P c
  | [], l, o => ⟨[], l, o, rfl, rfl, fun c h => nomatch h⟩
  | d :: r, l, o => by
    obtain ⟨c, l1, hc, e1⟩ := hm l d
    obtain ⟨cs, l2, o2, e2, n2, p2⟩ := lc_io hs hl hm r l1 (some d)
    have w : wipeE (E l o) [i] = E l none := hs l o none
    have g1 : mgName i d (E l none) = .ok () (E l (some d)) := by
      rw [mgName_ap, if_pos (hl l none), hs]
    have hY : mYes (E l (some d)) = .ok true (E l (some d)) := rfl
    refine ⟨c :: cs, l2, o2, ?_, by rw [List.length_cons, List.length_cons, n2], fun x hx => ?_⟩
    · simp only [lcLoop, w, g1, hY, e1, e2, List.map_cons]
    · rcases List.mem_cons.mp hx with z | z
      · rw [z]; exact hc
      · exact p2 x z
theorem mLc_io {mi : En → R (List D)} {ρ : En} {l : List Int} {o : Option D} {ds : List D} (hi : mi ρ = .ok ds (E l o)) (hz : ds.length ≤ sizeLine) (hs : ∀ l o o', (E l o).set i o' = E l o') (hl : ∀ l o, i < (E l o).length) (hg : (E l o)[i]? = some o)
    (hm : ∀ l d, ∃ c l', P c ∧ me (E l (some d)) = .ok (enc c) (E l' (some d))) :
    ∃ (cs : List β) (l' : List Int), mLc [i] mi (mgName i) mYes me ρ = .ok (.lst (cs.map enc)) (E l' o) ∧ cs.length = ds.length ∧ ∀ c ∈ cs, P c := by
  obtain ⟨cs, l', o', e, n, p⟩ := lc_io hs hl hm ds l o
  refine ⟨cs, l', ?_, n, p⟩
  have r : restE (E l o) [i] (E l' o') = E l' o := by
    show (E l' o').set i (match (E l o)[i]? with | some o => o | none => none) = _
    rw [hg]
    exact hs _ _ _
  rw [mLc_ap, hi, bind_ok, e]
  show (if (cs.map enc).length ≤ sizeLine then R.ok (D.lst (cs.map enc)) (restE (E l o) [i] (E l' o')) else R.bad) = _
  rw [if_pos (by rw [List.length_map, n]; exact hz), r]
end
theorem gcdL_cons (a : Int) (xs : List Int) (g : Nat) : gcdL (a :: xs) g = gcdL xs (Int.gcd g a) := rfl
theorem gcdL_dvd : ∀ (xs : List Int) (g : Nat), ((gcdL xs g : Nat) : Int) ∣ (g : Int) ∧ ∀ a ∈ xs, ((gcdL xs g : Nat) : Int) ∣ a
  | [], g => ⟨Int.dvd_refl _, fun a h => nomatch h⟩
  | x :: xs, g => by
    obtain ⟨h1, h2⟩ := gcdL_dvd xs (Int.gcd g x)
    rw [gcdL_cons]
    refine ⟨Int.dvd_trans h1 (Int.gcd_dvd_left _ _), fun a ha => ?_⟩
    rcases List.mem_cons.mp ha with rfl | ha
    · exact Int.dvd_trans h1 (Int.gcd_dvd_right _ _)
    · exact h2 a ha
theorem dvd_gcdL {d : Int} : ∀ (xs : List Int) (g : Nat), d ∣ (g : Int) → (∀ a ∈ xs, d ∣ a) → d ∣ ((gcdL xs g : Nat) : Int)
  | [], g, h, _ => h
  | x :: xs, g, h, hx => by
    rw [gcdL_cons]
    exact dvd_gcdL xs _ (Int.dvd_coe_gcd h (hx x List.mem_cons_self)) fun a ha => hx a (List.mem_cons_of_mem _ ha)
theorem gcdL_pos {xs : List Int} {a : Int} (ha : a ∈ xs) (h : a ≠ 0) : 0 < gcdL xs 0 := by
  have := (gcdL_dvd xs 0).2 a ha
  by_cases z : gcdL xs 0 = 0
  · rw [z] at this
    exact absurd (Int.zero_dvd.mp this) h
  · omega
def primL (xs : List Int) : List Int := xs.map fun a => a.fdiv (gcdL xs 0 : Nat)
theorem primL_mul {xs : List Int} {a : Int} (ha : a ∈ xs) : a.fdiv ((gcdL xs 0 : Nat) : Int) * ((gcdL xs 0 : Nat) : Int) = a :=
  Int.fdiv_mul_cancel ((gcdL_dvd xs 0).2 a ha)
theorem gcd_primL {xs : List Int} (h : 0 < gcdL xs 0) : gcdL (primL xs) 0 = 1 := by
  have h1 := gcdL_dvd (primL xs) 0
  have h2 : (((gcdL (primL xs) 0 : Nat) : Int) * ((gcdL xs 0 : Nat) : Int)) ∣ ((gcdL xs 0 : Nat) : Int) := by
    refine dvd_gcdL xs 0 (Int.dvd_zero _) fun a ha => ?_
    have h3 := h1.2 _ (List.mem_map.mpr ⟨a, ha, rfl⟩)
    have h4 := Int.mul_dvd_mul_right ((gcdL xs 0 : Nat) : Int) h3
    rw [primL_mul ha] at h4
    exact h4
  have h5 : gcdL (primL xs) 0 * gcdL xs 0 ∣ gcdL xs 0 := by exact_mod_cast h2
  have h6 := Nat.le_of_dvd h h5
  by_cases z : gcdL (primL xs) 0 = 0
  · rw [z, Nat.zero_mul] at h5
    have := Nat.eq_zero_of_zero_dvd h5
    omega
  · by_cases z2 : gcdL (primL xs) 0 = 1
    · exact z2
    · have : 2 * gcdL xs 0 ≤ gcdL (primL xs) 0 * gcdL xs 0 := Nat.mul_le_mul_right _ (by omega)
      omega
theorem primL_ne {xs : List Int} {a : Int} (ha : a ∈ xs) (h : a ≠ 0) : a.fdiv ((gcdL xs 0 : Nat) : Int) ≠ 0 := by
  intro z
  have := primL_mul ha
  rw [z, Int.zero_mul] at this
  exact h this.symm
end Q
namespace Q
open DL L2 PySem PySem.Spec PyProof.Rows
section
variable {n : Nat} {pt : List Int}
abbrev Sp (n : Nat) (pt : List Int) (l row : List Int) (o4 o5 o6 o7 o8 : Option D) : En := [some (dl l), some (.int n), some (dl pt), some (dl row), o4, o5, o6, o7, o8]
abbrev rows (k : Int) (n : Nat) (row : List Int) : Prop := row.length = n ∧ ∀ a ∈ row, -k ≤ a ∧ a ≤ k
theorem getD_mem {row : List Int} {j : Nat} (h : j < row.length) : row.getD j 0 ∈ row := by
  have : row.getD j 0 = row[j] := by simp [List.getD, h]
  rw [this]
  exact List.getElem_mem _
theorem seq_nx {a b : MS} {ρ ρ1 : En} (h : a ρ = .nx ρ1) : msSeq a b ρ = b ρ1 := by rw [msSeq_ap, h]
theorem seq_rt {a b : MS} {ρ ρ1 : En} {d : D} (h : a ρ = .rt d ρ1) : msSeq a b ρ = .rt d ρ1 := by rw [msSeq_ap, h]
theorem runM_rt {n np : Nat} {dd : List D} {fr : Bool} {m : MS} {ds : List D} {d : D} {ρ : En} (hl : (ds ++ dd).length = np) (h : m (pad n (ds ++ dd)) = .rt d ρ) : runM n np dd fr m ds = .rt d (io0 ρ) := by
  unfold runM
  rw [if_pos hl, h]
theorem runM_ex {n np : Nat} {dd : List D} {fr : Bool} {m : MS} {ds : List D} {x : Xn} {ρ : En} (hl : (ds ++ dd).length = np) (h : m (pad n (ds ++ dd)) = .ex x ρ) : runM n np dd fr m ds = .ex x (io0 ρ) := by
  unfold runM
  rw [if_pos hl, h]
theorem runM_nx {n np : Nat} {dd : List D} {m : MS} {ds : List D} {ρ : En} (hl : (ds ++ dd).length = np) (h : m (pad n (ds ++ dd)) = .nx ρ) : runM n np dd false m ds = .rt .non (io0 ρ) := by
  unfold runM
  rw [if_pos hl, h]
  rfl
end
end Q
namespace Q
open DL L2 PySem PySem.Spec PyProof.Rows
theorem okPls_nil (n : Nat) : okPls n [] = true := rfl
theorem okPls_snoc {n : Nat} {ps : List (List Int)} {p : List Int} (h : okPls n ps = true) (hp : isPl n p = true) (h1 : p ∉ ps) (h2 : negL p ∉ ps) (hl : ps.length + 1 ≤ 12) : okPls n (ps ++ [p]) = true := by
  unfold okPls at h ⊢
  simp only [Bool.and_eq_true, decide_eq_true_eq] at h ⊢
  obtain ⟨⟨a1, a2⟩, a3⟩ := h
  refine ⟨⟨by rw [List.length_append]; exact hl, ?_⟩, ?_⟩
  · rw [List.all_append, a2]
    simp [hp]
  · rw [List.zipIdx_append, List.all_append, Bool.and_eq_true]
    constructor
    · rw [List.all_eq_true] at a3 ⊢
      intro x hx
      have := a3 x hx
      have hm := List.mem_zipIdx hx
      have e : (ps ++ [p]).take x.2 = ps.take x.2 := List.take_append_of_le_length (by omega)
      unfold sepB at this ⊢
      rw [e]
      exact this
    · have e : (ps ++ [p]).take ps.length = ps := by simp
      simp [sepB, e]
      intro x hx
      exact ⟨fun z => h1 (z ▸ hx), fun z => h2 (z ▸ hx)⟩
theorem pl_memL {p : List Int} {ps : List (List Int)} : pl p ∈ ps.map pl ↔ p ∈ ps := by
  constructor
  · intro h
    obtain ⟨q, hq, e⟩ := List.mem_map.mp h
    rw [← pl_inj.mp e]
    exact hq
  · exact fun h => List.mem_map_of_mem h
theorem pd_pls (ps : List (List Int)) : ∀ d ∈ ps.map pl, Pd 1 d := fun d h => by
  obtain ⟨p, _, rfl⟩ := List.mem_map.mp h
  exact pd_ints 0 p
section
variable {n : Nat} {pt : List Int}
theorem gAppend_pl (ps : List (List Int)) (p : List Int) (h : ps.length ≤ 1000) : gAppend (ps.map pl) [pl p] = some (.non, (ps ++ [p]).map pl) := by
  have sz := szv
  unfold gAppend
  have : (ps.map pl).length < sizeLine := by rw [List.length_map]; omega
  show (if _ then _ else _) = _
  rw [if_pos this]
  simp
theorem loop_step {g : MG} {mb : MS} {d : D} {ds : List D} {ρ ρ1 ρ2 : En} (h1 : g d ρ = .ok () ρ1) (h2 : mb ρ1 = .nx ρ2) : loopL g mb (d :: ds) ρ = loopL g mb ds ρ2 := by
  simp only [loopL, h1, h2]
theorem gSet_at {xs : List D} {j : Nat} {v : D} (h : j < xs.length) : gSet (.lst xs) (.int (j : Int)) v = some (.lst (xs.set j v)) := by
  have e : ixN xs.length (j : Int) = some j := by
    have h0 : ¬ ((j : Int) < 0) := by omega
    unfold ixN
    simp [h]
  simp [gSet, e]
end
end Q
namespace Q
open DL L2 PySem PySem.Spec PyProof.Rows
abbrev nl (ps : List Nat) : D := .lst (ps.map fun i => D.int (i : Nat))
def Rw (W k : Nat) (r : List Rat) : Prop := r.length = W ∧ ∀ x ∈ r, Sz k x
theorem Rw.up {W i j : Nat} {r : List Rat} (h : Rw W i r) (l : i ≤ j) : Rw W j r := ⟨h.1, fun x hx => (h.2 x hx).up l⟩
theorem Rw.g {W k c : Nat} {r : List Rat} (h : Rw W k r) (hc : c < W) : Sz k (r.getD c 0) := by
  have e : r.getD c 0 = r[c]'(by rw [h.1]; exact hc) := by simp [List.getD, h.1, hc]
  rw [e]
  exact h.2 _ (List.getElem_mem _)
theorem getD_memM {M : List (List Rat)} {i : Nat} (h : i < M.length) : M.getD i [] ∈ M := by
  have e : M.getD i [] = M[i] := by simp [List.getD, h]
  rw [e]
  exact List.getElem_mem _
section
variable {d0 : D} {cs : Nat} {M : List (List Rat)} {ps : List Nat} {o7 o9 : Option D} {W k m top col : Nat}
abbrev Rd (d0 : D) (cs : Nat) (L P : D) (o5 o6 o7 o8 o9 : Option D) : En := [some d0, some (.int cs), some L, none, some P, o5, o6, o7, o8, o9, none]
end
end Q
namespace Q
open DL L2 PySem PySem.Spec PyProof.Rows
section
variable {d0 : D} {cs : Nat} {M : List (List Rat)} {ps : List Nat} {o5 o6 o7 o8 o9 : Option D} {W k m top col : Nat}
theorem range2 {a b : Nat} (ha : a ≤ 1000000) (hb : b ≤ 1000000) : gRange2 [.int (a : Int), .int (b : Int)] = some (((List.range (b - a)).map fun i => a + i).map fun i => D.int (i : Nat)) := by
  show (if okR a = true ∧ okR b = true then some (rangeL a ((b : Int) - (a : Int)).toNat) else none) = _
  rw [if_pos ⟨okR_nat ha, okR_nat hb⟩, List.map_map]
  have : ((b : Int) - (a : Int)).toNat = b - a := by omega
  rw [this]
  unfold rangeL
  congr 1
def Mx (m W k : Nat) (M : List (List Rat)) : Prop := M.length = m ∧ ∀ r ∈ M, Rw W k r
theorem Mx.up {m W i j : Nat} (h : Mx m W i M) (l : i ≤ j) : Mx m W j M := ⟨h.1, fun r hr => (h.2 r hr).up l⟩
def kk (k : Nat) : Nat → Nat
  | 0 => k
  | n + 1 => 4 * kk k n + 1
end
end Q
namespace Q
open DL L2 PySem PySem.Spec PyProof.Rows
end Q
namespace Q
open DL L2 PySem PySem.Spec PyProof.Rows
section
variable {w top col : Nat} {M : List (List Rat)}
def Zr (w : Nat) (M : List (List Rat)) : Prop := ∀ r ∈ M, r.getD w 0 = 0
theorem Zr.g (h : Zr w M) (i : Nat) : (M.getD i []).getD w 0 = 0 := by
  by_cases l : i < M.length
  · exact h _ (getD_memM l)
  · have : M.getD i [] = [] := by simp [List.getD, Nat.not_lt.mp l]
    rw [this]; rfl
theorem Zr.set (h : Zr w M) (i : Nat) {r : List Rat} (hr : r.getD w 0 = 0) : Zr w (M.set i r) := fun x hx => by
  rcases List.mem_or_eq_of_mem_set hx with z | z
  · exact h x z
  · rw [z]; exact hr
end
section
variable {n k : Nat} {ps : List (List Int)} {ks : List Nat}
theorem getD_memP {ps : List (List Int)} {i : Nat} (h : i < ps.length) : ps.getD i [] ∈ ps := by
  have e : ps.getD i [] = ps[i] := by simp [List.getD, h]
  rw [e]
  exact List.getElem_mem _
theorem ixP (h : i < ps.length) {d : D} (hd : Sq d (ps.map pl)) : gIx d (.int (i : Int)) = some (pl (ps.getD i [])) := by
  rw [hd.ix, atI_nat' _ i (by rw [List.length_map]; exact h), List.getElem_map]
  simp [List.getD, h]
theorem ix_pl {p : List Int} {j : Nat} (h : j < p.length) : gIx (pl p) (.int (j : Int)) = some (.int (p.getD j 0)) := by
  show L2.atI (p.map D.int) (j : Int) = _
  rw [atI_nat' _ j (by rw [List.length_map]; exact h), List.getElem_map]
  simp [List.getD, h]
end
end Q
namespace Q
open DL L2 PySem PySem.Spec PyProof.Rows
section
variable {n m : Nat} {ps qs : List (List Int)} {p q : List Int}
def Sep (o r : List Int) : Prop := r ≠ o ∧ negL r ≠ o
theorem sepB_iff {i : Nat} {r : List Int} : sepB ps i r = false ↔ ∀ o ∈ ps.take i, Sep o r := by
  unfold sepB Sep
  rw [List.any_eq_false]
  constructor
  · intro h o ho
    have := h o ho
    simpa using this
  · intro h o ho
    have := h o ho
    simpa using this
theorem okPls_iff : okPls n ps = true ↔ ps.length ≤ 12 ∧ (∀ p ∈ ps, isPl n p = true) ∧ ps.Pairwise Sep := by
  unfold okPls
  simp only [Bool.and_eq_true, decide_eq_true_eq, List.all_eq_true]
  have key : (∀ x ∈ ps.zipIdx, (!sepB ps x.2 x.1) = true) ↔ ps.Pairwise Sep := by
    rw [List.pairwise_iff_getElem]
    constructor
    · intro h i j hi hj hij
      have h1 := h (ps[j], j) (by rw [List.mem_zipIdx_iff_getElem?]; exact List.getElem?_eq_getElem hj)
      have h2 := sepB_iff.mp (show sepB ps j ps[j] = false by simpa using h1)
      exact h2 _ (List.mem_take_iff_getElem.mpr ⟨i, by omega, rfl⟩)
    · intro h x hx
      rw [List.mem_zipIdx_iff_getElem?] at hx
      have z : sepB ps x.2 x.1 = false → (!sepB ps x.2 x.1) = true := fun e => by rw [e]; rfl
      refine z (sepB_iff.mpr fun o ho => ?_)
      obtain ⟨i, hi, rfl⟩ := List.mem_take_iff_getElem.mp ho
      obtain ⟨hj, e⟩ := List.getElem?_eq_some_iff.mp hx
      rw [← e]
      exact h i x.2 (by omega) hj (by omega)
  rw [key]
  constructor
  · rintro ⟨⟨a, b⟩, c⟩; exact ⟨a, b, c⟩
  · rintro ⟨a, b, c⟩; exact ⟨⟨a, b⟩, c⟩
end
end Q
namespace Q
open DL L2 PySem PySem.Spec PyProof.Rows
section
variable {n m : Nat} {ps qs : List (List Int)} {p : List Int}
theorem ok_len (h : okPls n ps = true) : ps.length ≤ 12 := (okPls_iff.mp h).1
theorem ok_pi (h : okPls n ps = true) : ∀ p ∈ ps, Pi 10 n p := fun p hp => Pi.of ((okPls_iff.mp h).2.1 p hp)
theorem p10 : (2 : Nat) ^ 10 ≤ 2 ^ 8000 := Nat.pow_le_pow_right (by decide) (by decide)
theorem sm_ok (h : okPls n ps = true) (hn : n ≤ 100) : Sm ps := ⟨by have := ok_len h; omega, fun p hp => by
  have := ok_pi h p hp
  exact ⟨fun a ha => Nat.lt_of_lt_of_le (this.2 a ha) p10, by rw [this.1]; omega⟩⟩
theorem add_pl {a b : List Int} (h : a.length + b.length ≤ 10000) : gAdd (pl a) (pl b) = some (pl (a ++ b)) := by
  have sz := szv
  unfold pl
  have : (a.map D.int).length + (b.map D.int).length ≤ sizeLine := by rw [List.length_map, List.length_map]; omega
  show (if (a.map D.int).length + (b.map D.int).length ≤ sizeLine then some (D.tup (a.map D.int ++ b.map D.int)) else none) = _
  rw [if_pos this, List.map_append]
end
end Q
namespace Q
open DL L2 PySem PySem.Spec PyProof.Rows
end Q
namespace Q
abbrev Vc := Nat → Rat
inductive Rs (L : List Vc) : Vc → Prop
  | zero : Rs L fun _ => 0
  | add {v r : Vc} (a : Rat) : Rs L v → r ∈ L → Rs L fun i => v i + a * r i
theorem Rs.mem {L : List Vc} {r : Vc} (h : r ∈ L) : Rs L r := by
  have := Rs.add 1 (Rs.zero (L := L)) h
  have e : (fun i => (0 : Rat) + 1 * r i) = r := by funext i; grind
  rw [e] at this
  exact this
theorem Rs.comb {L : List Vc} {u v : Vc} (a : Rat) (hu : Rs L u) (hv : Rs L v) : Rs L fun i => u i + a * v i := by
  induction hv with
  | zero =>
    have e : (fun i => u i + a * (0 : Rat)) = u := by funext i; grind
    rw [e]; exact hu
  | add b _ hr ih =>
    have := Rs.add (a * b) ih hr
    refine Eq.mp ?_ this
    congr 1
    funext i
    grind
theorem Rs.sub {L L' : List Vc} (h : ∀ r ∈ L, Rs L' r) {v : Vc} (hv : Rs L v) : Rs L' v := by
  induction hv with
  | zero => exact .zero
  | add a _ hr ih => exact ih.comb a (h _ hr)
structure Rref (D : List (Nat × Vc)) : Prop where
  asc : D.Pairwise fun p q => p.1 < q.1
  one : ∀ p ∈ D, p.2 p.1 = 1
  zer : ∀ p ∈ D, ∀ q ∈ D, p.1 ≠ q.1 → q.2 p.1 = 0
  led : ∀ p ∈ D, ∀ i, i < p.1 → p.2 i = 0
theorem Rref.tail {p : Nat × Vc} {D : List (Nat × Vc)} (h : Rref (p :: D)) : Rref D :=
  ⟨(List.pairwise_cons.mp h.asc).2, fun q hq => h.one q (List.mem_cons_of_mem _ hq), fun q hq r hr => h.zer q (List.mem_cons_of_mem _ hq) r (List.mem_cons_of_mem _ hr), fun q hq => h.led q (List.mem_cons_of_mem _ hq)⟩
end Q
namespace Q
def vec (r : List Rat) : Vc := fun i => r.getD i 0
section
variable {M : List (List Rat)} {ps : List Nat} {W m top col h : Nat} {hs : List Nat}
def row (M : List (List Rat)) (i : Nat) : Vc := vec (M.getD i [])
end
end Q
namespace Q
def rowsV (M : List (List Rat)) : List Vc := M.map vec
structure Red (M0 : List (List Rat)) (W c : Nat) (s : List (List Rat) × List Nat) : Prop where
  len : s.1.length = M0.length
  wid : ∀ r ∈ s.1, r.length = W
  plen : s.2.length ≤ s.1.length
  asc : s.2.Pairwise (· < ·)
  lt : ∀ p ∈ s.2, p < c
  one : ∀ i p, s.2[i]? = some p → ∀ j, j < s.1.length → row s.1 j p = if j = i then 1 else 0
  led : ∀ i p, s.2[i]? = some p → ∀ t, t < p → row s.1 i t = 0
  low : ∀ j, s.2.length ≤ j → j < s.1.length → ∀ t, t < c → row s.1 j t = 0
  spn : ∀ v, Rs (rowsV s.1) v ↔ Rs (rowsV M0) v
section
variable {M0 : List (List Rat)} {W c : Nat}
theorem Red.start {M : List (List Rat)} (h : ∀ r ∈ M, r.length = W) : Red M W 0 (M, []) :=
  ⟨rfl, h, Nat.zero_le _, .nil, (fun p hp => nomatch hp), (fun i p e => by simp at e), (fun i p e => by simp at e), (fun j _ _ t ht => by omega), fun v => Iff.rfl⟩
end
end Q
namespace Q
end Q
namespace Q
structure LE where
  left : List (List Rat)
  piv : List Nat
  done : List (List Rat)
def LE.D (s : LE) : List (Nat × Vc) := (s.piv.zip s.done).map fun p => (p.1, vec p.2)
structure Lred (M0 : List (List Rat)) (W c : Nat) (s : LE) : Prop where
  wl : ∀ r ∈ s.left, r.length = W
  wd : ∀ r ∈ s.done, r.length = W
  pl : s.piv.length = s.done.length
  lt : ∀ p ∈ s.piv, p < c
  rr : Rref s.D
  low : ∀ r ∈ s.left, ∀ t, t < c → vec r t = 0
  spn : ∀ v, Rs (rowsV (s.done ++ s.left)) v ↔ Rs (rowsV M0) v
section
variable {M0 : List (List Rat)} {W c : Nat} {s : LE}
theorem Lred.start {M : List (List Rat)} (h : ∀ r ∈ M, r.length = W) : Lred M W 0 ⟨M, [], []⟩ :=
  ⟨h, (fun r hr => nomatch hr), rfl, (fun p hp => nomatch hp), ⟨.nil, (fun p hp => nomatch hp), (fun p hp => nomatch hp), (fun p hp => nomatch hp)⟩, (fun r _ t ht => by omega), fun v => Iff.rfl⟩
end
end Q
namespace Q
end Q
namespace Q
open DL L2 PySem PySem.Spec PyProof.Rows
end Q
namespace Q
open DL L2 PySem PySem.Spec PyProof.Rows
end Q
namespace Q
open DL L2 PySem PySem.Spec PyProof.Rows
def Cd (d : Int) (a : Nat) (x : Rat) : Prop := ∃ N : Int, x * (d : Rat) = (N : Rat) ∧ N.natAbs < 2 ^ a
def Cm (d : Int) (a : Nat) (L : List (List Rat)) : Prop := d ≠ 0 ∧ d.natAbs < 2 ^ a ∧ ∀ r ∈ L, ∀ x ∈ r, Cd d a x
theorem castZ {d : Int} (h : d ≠ 0) : (d : Rat) ≠ 0 := fun e => h (by exact_mod_cast e)
theorem Cd.sz {d : Int} {a : Nat} {x : Rat} (hd : d ≠ 0) (hb : d.natAbs < 2 ^ a) (h : Cd d a x) : Sz a x := by
  obtain ⟨N, e, hN⟩ := h
  have hz := castZ hd
  have : x = Rat.divInt N d := by
    rw [Rat.divInt_eq_div]
    grind
  rw [this]
  exact fr_low hd hN hb
theorem Cd.zero (d : Int) (a : Nat) : Cd d a 0 := ⟨0, by simp, Nat.two_pow_pos a⟩
theorem Cd.up {d : Int} {a b : Nat} {x : Rat} (h : Cd d a x) (l : a ≤ b) : Cd d b x := let ⟨N, e, h⟩ := h; ⟨N, e, Nat.lt_of_lt_of_le h (Nat.pow_le_pow_right (by decide) l)⟩
theorem Cm.up {d : Int} {a b : Nat} {L : List (List Rat)} (h : Cm d a L) (l : a ≤ b) : Cm d b L := ⟨h.1, Nat.lt_of_lt_of_le h.2.1 (Nat.pow_le_pow_right (by decide) l), fun r hr x hx => (h.2.2 r hr x hx).up l⟩
theorem Cd.g {d : Int} {a : Nat} {r : List Rat} (h : ∀ x ∈ r, Cd d a x) (c : Nat) : Cd d a (r.getD c 0) := by
  by_cases hc : c < r.length
  · have e : r.getD c 0 = r[c] := by simp [List.getD, hc]
    rw [e]
    exact h _ (List.getElem_mem _)
  · have e : r.getD c 0 = 0 := by simp [List.getD, hc]
    rw [e]
    exact Cd.zero d a
theorem pow2 (a : Nat) : 2 ^ (2 * a + 1) = 2 ^ a * 2 ^ a * 2 := by rw [Nat.pow_succ, Nat.two_mul, Nat.pow_add]
theorem mul_lt {x y : Int} {a : Nat} (hx : x.natAbs < 2 ^ a) (hy : y.natAbs < 2 ^ a) : (x * y).natAbs < 2 ^ a * 2 ^ a := by
  rw [Int.natAbs_mul]
  exact Nat.mul_lt_mul'' hx hy
section
variable {d Nc : Int} {a : Nat} {xc : Rat}
theorem Cd.keep {y : Rat} (hy : Cd d a y) (hN' : Nc.natAbs < 2 ^ a) : Cd (d * Nc) (2 * a + 1) y := by
  obtain ⟨N, e, hN⟩ := hy
  refine ⟨N * Nc, ?_, ?_⟩
  · rw [Rat.intCast_mul, Rat.intCast_mul, ← e]
    grind
  · have := mul_lt hN hN'
    rw [pow2]
    omega
theorem Cd.less {u v y : Rat} (hu : Cd d a u) (hv : Cd d a v) (hy : Cd d a y) (hx : xc * (d : Rat) = (Nc : Rat)) (hN' : Nc.natAbs < 2 ^ a) (nz : xc ≠ 0) : Cd (d * Nc) (2 * a + 1) (u + (-v) * (y * xc⁻¹)) := by
  obtain ⟨N1, e1, h1⟩ := hu
  obtain ⟨N2, e2, h2⟩ := hv
  obtain ⟨N3, e3, h3⟩ := hy
  refine ⟨N1 * Nc - N2 * N3, ?_, ?_⟩
  · rw [Rat.intCast_mul, Rat.intCast_sub, Rat.intCast_mul, Rat.intCast_mul, ← hx, ← e1, ← e2, ← e3]
    have := Rat.inv_mul_cancel xc nz
    grind
  · have a1 := mul_lt h1 hN'
    have a2 := mul_lt h2 h3
    rw [pow2]
    omega
end
end Q
namespace Q
open DL L2 PySem PySem.Spec PyProof.Rows
section
variable {d0 : D} {cs : Nat} {M : List (List Rat)} {W K m : Nat}
theorem loop_ct {g : MG} {mb : MS} {d : D} {ds : List D} {ρ ρ1 ρ2 : En} (h1 : g d ρ = .ok () ρ1) (h2 : mb ρ1 = .ct ρ2) : loopL g mb (d :: ds) ρ = loopL g mb ds ρ2 := by simp only [loopL, h1, h2]
end
end Q
namespace Q
open DL L2 PySem PySem.Spec PyProof.Rows
end Q
namespace Q
open DL L2 PySem PySem.Spec PyProof.Rows
section
variable {W K : Nat} {s : LE} {M : List (List Rat)}
def LE.all (s : LE) : List (List Rat) := s.left ++ s.done
end
end Q
namespace Q
def dv (n : Nat) (u v : Vc) : Rat := ((List.range n).map fun t => u t * v t).sum
theorem Rs.split {b v : Vc} {B : List Vc} (h : Rs (b :: B) v) : ∃ a : Rat, Rs B fun i => v i + a * b i := by
  induction h with
  | zero =>
    refine ⟨0, ?_⟩
    have e : (fun i => (0 : Rat) + 0 * b i) = fun _ => 0 := by funext i; grind
    rw [e]; exact .zero
  | @add u r c _ hm ih =>
    obtain ⟨a, ha⟩ := ih
    rcases List.mem_cons.mp hm with e | m
    · subst e
      refine ⟨a - c, ?_⟩
      have e : (fun i => u i + c * r i + (a - c) * r i) = fun i => u i + a * r i := by funext i; grind
      rw [e]; exact ha
    · refine ⟨a, ?_⟩
      have := ha.comb c (Rs.mem m)
      refine Eq.mp ?_ this
      congr 1
      funext i
      grind
end Q
namespace Q
end Q
namespace Q
end Q
namespace Q
open DL L2 PySem PySem.Spec PyProof.Rows
def Sw (W n : Nat) (d : D) : Prop := ∃ x, d.py = some x ∧ x.showable = true ∧ x.leavesShort 2000 = true ∧ x.weight ≤ W ∧ x.depth ≤ n
theorem Sw.up {W W' n n' : Nat} {d : D} (h : Sw W n d) (a : W ≤ W') (b : n ≤ n') : Sw W' n' d := let ⟨x, h1, h2, h3, h4, h5⟩ := h; ⟨x, h1, h2, h3, Nat.le_trans h4 a, Nat.le_trans h5 b⟩
theorem Sw.int {a : Int} {k : Nat} (h : a.natAbs < 2 ^ k) (hk : k ≤ 1900) (k0 : 0 < k) : Sw k 1 (.int a) := by
  have h' : a.natAbs < 2 ^ 1900 := Nat.lt_of_lt_of_le h (Nat.pow_le_pow_right (by decide) hk)
  have l1 := lg h' (by decide)
  have l2 := lg h k0
  refine ⟨.int a, rfl, ?_, ?_, ?_, ?_⟩
  · simp only [PyData.showable, decide_eq_true_eq]; omega
  · unfold PyData.leavesShort
    have e : PyData.shown (.int a) = Str.ofString (toString a) := by simp only [PyData.shown] <;> rfl
    rw [e]
    exact decide_eq_true (int_len h')
  · unfold PyData.weight
    split <;> omega
  · simp [PyData.depth]
theorem Sw.bl (b : Bool) : Sw 0 1 (.bl b) := ⟨.bool b, rfl, by simp [PyData.showable], by simp [PyData.leavesShort], by simp [PyData.weight], by simp [PyData.depth]⟩
theorem Sw.non : Sw 0 1 .non := ⟨.none, rfl, by simp [PyData.showable], by simp [PyData.leavesShort], by simp [PyData.weight], by simp [PyData.depth]⟩
theorem Sw.str {l : List Nat} (h : ∀ c ∈ l, c < 1114112) : Sw l.length 1 (sD l) := ⟨.str (S l), rfl, by simp [PyData.showable], by
  unfold PyData.leavesShort
  rw [List.all_eq_true]
  intro c hc
  have := h c hc
  exact decide_eq_true (by omega), by unfold PyData.weight; simp [S, SX.S], by simp [PyData.depth]⟩
theorem Sw.all {W n : Nat} : ∀ l : List D, (∀ d ∈ l, Sw W n d) → ∃ xs, pyAll l = some xs ∧ PyData.showableAll xs = true ∧ PyData.leavesShortAll 2000 xs = true ∧ PyData.weightAll xs ≤ l.length * (W + 1) ∧ PyData.depthAll xs ≤ n
  | [], _ => ⟨[], pyAll_nil, rfl, rfl, by simp [PyData.weightAll], by simp [PyData.depthAll]⟩
  | d :: l, h => by
    obtain ⟨x, a1, a2, a3, a4, a5⟩ := h d List.mem_cons_self
    obtain ⟨xs, b1, b2, b3, b4, b5⟩ := Sw.all l fun d hd => h d (List.mem_cons_of_mem _ hd)
    refine ⟨x :: xs, ?_, ?_, ?_, ?_, ?_⟩
    · unfold pyAll
      rw [a1, b1]
      rfl
    · simp [PyData.showableAll, a2, b2]
    · simp [PyData.leavesShortAll, a3, b3]
    · rw [List.length_cons, Nat.succ_mul]
      simp only [PyData.weightAll]
      omega
    · simp only [PyData.depthAll]
      omega
theorem Sw.tup {W n : Nat} {l : List D} (h : ∀ d ∈ l, Sw W n d) : Sw (l.length * (W + 1)) (n + 1) (.tup l) := by
  obtain ⟨xs, b1, b2, b3, b4, b5⟩ := Sw.all l h
  refine ⟨.tuple xs, ?_, ?_, ?_, ?_, ?_⟩
  · unfold D.py
    rw [b1]; rfl
  · simpa [PyData.showable] using b2
  · simpa [PyData.leavesShort] using b3
  · simpa [PyData.weight] using b4
  · simp only [PyData.depth]; omega
theorem Sw.lst {W n : Nat} {l : List D} (h : ∀ d ∈ l, Sw W n d) : Sw (l.length * (W + 1)) (n + 1) (.lst l) := by
  obtain ⟨xs, b1, b2, b3, b4, b5⟩ := Sw.all l h
  refine ⟨.list xs, ?_, ?_, ?_, ?_, ?_⟩
  · unfold D.py
    rw [b1]; rfl
  · simpa [PyData.showable] using b2
  · simpa [PyData.leavesShort] using b3
  · simpa [PyData.weight] using b4
  · simp only [PyData.depth]; omega
theorem Sw.shown {W n : Nat} {d : D} (h : Sw W n d) (hW : W ≤ 8000) (hn : n ≤ 60) : ∃ z, gRepr [d] = some (.str z) := by
  obtain ⟨x, h1, h2, h3, h4, h5⟩ := h
  have k := PyData.shown_le 2000 (by decide) x h3
  have sz := szv
  refine ⟨x.shown, ?_⟩
  show (shownD d).map D.str = _
  unfold shownD
  have l : x.shown.length ≤ sizeLine := by omega
  simp only [h1]
  rw [if_pos ⟨h2, l, by omega⟩]
  rfl
theorem neS_self (z : Str) : gNe (.str z) (.str z) = some (.bl false) := by simp
theorem eqS_self (z : Str) : gEq (.str z) (.str z) = some (.bl true) := by simp
end Q
namespace Q
open DL L2 PySem PySem.Spec PyProof.Rows
end Q
namespace Q
open DL L2 PySem PySem.Spec PyProof.Rows
end Q
namespace Q
open DL L2 PySem PySem.Spec PyProof.Rows
end Q
namespace Q
open DL L2 PySem PySem.Spec PyProof.Rows
theorem gAll_true {α : Type} (f : α → Bool) (l : List α) (h : ∀ a ∈ l, f a = true) : gAll [.lst (l.map fun a => .bl (f a))] = some (.bl true) := by
  rw [gAll_map, List.all_eq_true.mpr h]
end Q
namespace Q
open DL L2 PySem PySem.Spec PyProof.Rows
section
def Tw (k : Nat) (x : Rat) : Prop := ∃ N : Int, x * (12 : Rat) ^ k = (N : Rat) ∧ N.natAbs ≤ 84 ^ k
theorem Tw.s {k : Nat} {x : Rat} (h : Tw k x) : Tw (k + 1) x := by
  obtain ⟨N, e, hN⟩ := h
  refine ⟨N * 12, ?_, ?_⟩
  · rw [Rat.intCast_mul, ← e, Rat.pow_succ]
    have : ((12 : Int) : Rat) = 12 := rfl
    rw [this]
    grind
  · rw [Int.natAbs_mul, Nat.pow_succ]
    exact Nat.mul_le_mul hN (by decide)
theorem Tw.up {j k : Nat} {x : Rat} (h : Tw j x) (l : j ≤ k) : Tw k x := by
  obtain ⟨d, rfl⟩ : ∃ d, k = j + d := ⟨k - j, by omega⟩
  clear l
  induction d with
  | zero => exact h
  | succ d ih => exact ih.s
theorem Tw.int {z : Int} (h : z.natAbs ≤ 7) : Tw 1 (z : Rat) := ⟨z * 12, by rw [Rat.intCast_mul]; have : ((12 : Int) : Rat) = 12 := rfl; rw [this]; grind, by rw [Int.natAbs_mul]; show z.natAbs * 12 ≤ 84 ^ 1; omega⟩
theorem Tw.comb {k : Nat} {a b x : Rat} (ha : Tw k a) (hb : Tw k b) (hx : ∃ N : Int, x * (12 : Rat) = (N : Rat) ∧ N.natAbs ≤ 72) : Tw (k + 1) (a + x * b) := by
  obtain ⟨A, ea, hA⟩ := ha
  obtain ⟨B, eb, hB⟩ := hb
  obtain ⟨N, en, hN⟩ := hx
  refine ⟨12 * A + N * B, ?_, ?_⟩
  · rw [Rat.intCast_add, Rat.intCast_mul, Rat.intCast_mul, ← ea, ← eb, ← en, Rat.pow_succ]
    have : ((12 : Int) : Rat) = 12 := rfl
    rw [this]
    grind
  · rw [Nat.pow_succ]
    have h1 : (N * B).natAbs ≤ 72 * 84 ^ k := by rw [Int.natAbs_mul]; exact Nat.mul_le_mul hN hB
    omega
theorem pow12 (k : Nat) : ((12 : Int) ^ k).natAbs = 12 ^ k := by rw [Int.natAbs_pow]; rfl
theorem cast12 (k : Nat) : (((12 : Int) ^ k : Int) : Rat) = (12 : Rat) ^ k := by
  rw [Rat.intCast_pow]; rfl
theorem Tw.cd {k a : Nat} {x : Rat} (h : Tw k x) (ha : 84 ^ k < 2 ^ a) : Cd ((12 : Int) ^ k) a x := by
  obtain ⟨N, e, hN⟩ := h
  exact ⟨N, by rw [cast12]; exact e, Nat.lt_of_le_of_lt hN ha⟩
theorem Tw.sz {k a : Nat} {x : Rat} (h : Tw k x) (ha : 84 ^ k < 2 ^ a) : Sz a x := (h.cd ha).sz (by
  have := pow12 k
  intro z
  rw [z] at this
  have := Nat.pow_pos (n := k) (show 0 < 12 by decide)
  omega) (by rw [pow12]; exact Nat.lt_of_le_of_lt (Nat.pow_le_pow_left (by decide) k) ha)
end
end Q
namespace Q
open DL L2 PySem PySem.Spec PyProof.Rows
end Q
namespace Q
open DL L2 PySem PySem.Spec PyProof.Rows
end Q
namespace Q
open DL L2 PySem PySem.Spec PyProof.Rows
end Q
namespace Q
open DL L2 PySem PySem.Spec PyProof.Rows
section
variable {n w : Nat} {A : List (List Rat)} {b v xs : List Rat} {d : D}
def Tc (c : Nat) (x : Rat) : Prop := ∃ N : Int, x * (12 : Rat) ^ 6 = (N : Rat) ∧ N.natAbs ≤ c * 84 ^ 6
theorem Tc.of {x : Rat} (h : Tw 6 x) : Tc 1 x := by
  obtain ⟨N, e, hN⟩ := h
  exact ⟨N, e, by rw [Nat.one_mul]; exact hN⟩
theorem Tc.zero : Tc 0 0 := ⟨0, by simp, by simp⟩
theorem Tc.add {i j : Nat} {x y : Rat} (h : Tc i x) (g : Tc j y) : Tc (i + j) (x + y) := by
  obtain ⟨N, e, hN⟩ := h
  obtain ⟨M, f, hM⟩ := g
  refine ⟨N + M, ?_, ?_⟩
  · rw [Rat.intCast_add, ← e, ← f]
    grind
  · rw [Nat.add_mul]
    omega
theorem Tc.up {i j : Nat} {x : Rat} (h : Tc i x) (l : i ≤ j) : Tc j x := by
  obtain ⟨N, e, hN⟩ := h
  exact ⟨N, e, Nat.le_trans hN (Nat.mul_le_mul_right _ l)⟩
theorem Tc.cd {c : Nat} {x : Rat} (h : Tc c x) (hc : c ≤ 6) : Cd ((12 : Int) ^ 6) 41 x := by
  obtain ⟨N, e, hN⟩ := h
  refine ⟨N, by rw [cast12]; exact e, Nat.lt_of_le_of_lt (Nat.le_trans hN (Nat.mul_le_mul_right _ hc)) (by decide)⟩
theorem d12 : ((12 : Int) ^ 6) ≠ 0 ∧ ((12 : Int) ^ 6).natAbs < 2 ^ 41 := by decide
theorem Tc.sz {c : Nat} {x : Rat} (h : Tc c x) (hc : c ≤ 6) : Sz 41 x := (h.cd hc).sz d12.1 d12.2
end
end Q
namespace Q
section
variable {W w : Nat} {M N A : List (List Rat)} {s t : LE}
theorem Rs.sum {D : List (Nat × Vc)} (g : Nat × Vc → Rat) (f : Nat × Vc → Vc) : Rs (D.map f) fun i => (D.map fun p => g p * f p i).sum := by
  induction D with
  | nil => exact Rs.zero
  | cons p D ih =>
    have := (Rs.sub (L' := f p :: D.map f) (fun r hr => Rs.mem (List.mem_cons_of_mem _ hr)) ih).comb (g p) (Rs.mem (L := f p :: D.map f) (r := f p) List.mem_cons_self)
    refine Eq.mp ?_ this
    rw [List.map_cons]
    congr 1
    funext i
    rw [List.map_cons, List.sum_cons, Rat.add_comm]
end
end Q
namespace Q
end Q
namespace Q
end Q
namespace Q
open DL L2 PySem PySem.Spec PyProof.Rows
end Q
namespace Q
open DL L2 PySem PySem.Spec PyProof.Rows
end Q
namespace Q
open DL L2 PySem PySem.Spec PyProof.Rows
section
def Sb (B n : Nat) (d : D) : Prop := ∃ x, d.py = some x ∧ x.showable = true ∧ x.leavesShort 2000 = true ∧ x.bulk ≤ B ∧ x.depth ≤ n
theorem Sb.int {a : Int} (h : a.natAbs < 2 ^ 1900) : Sb 0 1 (.int a) := by
  have l1 := lg h (by decide)
  refine ⟨.int a, rfl, ?_, ?_, ?_, ?_⟩
  · simp only [PyData.showable, decide_eq_true_eq]; omega
  · unfold PyData.leavesShort
    have e : PyData.shown (.int a) = Str.ofString (toString a) := by simp only [PyData.shown] <;> rfl
    rw [e]
    exact decide_eq_true (int_len h)
  · unfold PyData.bulk
    omega
  · simp [PyData.depth]
theorem Sb.all {W n : Nat} : ∀ l : List D, (∀ d ∈ l, Sb W n d) → ∃ xs, pyAll l = some xs ∧ PyData.showableAll xs = true ∧ PyData.leavesShortAll 2000 xs = true ∧ PyData.bulkAll xs ≤ l.length * (W + 1) ∧ PyData.depthAll xs ≤ n
  | [], _ => ⟨[], pyAll_nil, rfl, rfl, by simp [PyData.bulkAll], by simp [PyData.depthAll]⟩
  | d :: l, h => by
    obtain ⟨x, a1, a2, a3, a4, a5⟩ := h d List.mem_cons_self
    obtain ⟨xs, b1, b2, b3, b4, b5⟩ := Sb.all l fun d hd => h d (List.mem_cons_of_mem _ hd)
    refine ⟨x :: xs, ?_, ?_, ?_, ?_, ?_⟩
    · unfold pyAll
      rw [a1, b1]
      rfl
    · simp [PyData.showableAll, a2, b2]
    · simp [PyData.leavesShortAll, a3, b3]
    · rw [List.length_cons, Nat.succ_mul]
      simp only [PyData.bulkAll]
      omega
    · simp only [PyData.depthAll]
      omega
theorem Sb.tup {W n B : Nat} {l : List D} (h : ∀ d ∈ l, Sb W n d) (hB : l.length * (W + 1) ≤ B) : Sb B (n + 1) (.tup l) := by
  obtain ⟨xs, b1, b2, b3, b4, b5⟩ := Sb.all l h
  refine ⟨.tuple xs, ?_, ?_, ?_, ?_, ?_⟩
  · unfold D.py
    rw [b1]; rfl
  · simpa [PyData.showable] using b2
  · simpa [PyData.leavesShort] using b3
  · have : PyData.bulk (.tuple xs) = PyData.bulkAll xs := by simp [PyData.bulk]
    omega
  · simp only [PyData.depth]; omega
theorem Sb.lst {W n B : Nat} {l : List D} (h : ∀ d ∈ l, Sb W n d) (hB : l.length * (W + 1) ≤ B) : Sb B (n + 1) (.lst l) := by
  obtain ⟨xs, b1, b2, b3, b4, b5⟩ := Sb.all l h
  refine ⟨.list xs, ?_, ?_, ?_, ?_, ?_⟩
  · unfold D.py
    rw [b1]; rfl
  · simpa [PyData.showable] using b2
  · simpa [PyData.leavesShort] using b3
  · have : PyData.bulk (.list xs) = PyData.bulkAll xs := by simp [PyData.bulk]
    omega
  · simp only [PyData.depth]; omega
theorem Sb.shown {W n : Nat} {d : D} (h : Sb W n d) (hW : W ≤ 8000) (hn : n ≤ 60) : ∃ z, gRepr [d] = some (.str z) := by
  obtain ⟨x, h1, h2, h3, h4, h5⟩ := h
  have k := PyData.shown_le_bulk 2000 (by decide) x h3
  have sz := szv
  refine ⟨x.shown, ?_⟩
  show (shownD d).map D.str = _
  unfold shownD
  have l : x.shown.length ≤ sizeLine := by omega
  simp only [h1]
  rw [if_pos ⟨h2, l, by omega⟩]
  rfl
theorem Sb.fr {x : Rat} (h : Sz 1900 x) : Sb 2 2 (Q.fr x) := Sb.tup (W := 0) (fun d hd => by
  simp only [List.mem_cons, List.not_mem_nil, or_false] at hd
  rcases hd with rfl | rfl
  · exact Sb.int h.1
  · exact Sb.int h.2) (by simp)
end
end Q
namespace Q
open DL L2 PySem PySem.Spec PyProof.Rows
end Q
namespace Q
open DL L2 PySem PySem.Spec PyProof.Rows
end Q
namespace DL
open L2 PySem PySem.Spec PyProof.Rows
def Dw (l : List Int) : Prop := ∀ x ∈ l, 0 ≤ x ∧ x < 1000
theorem Dw.app {a b : List Int} (h : Dw a) (k : Dw b) : Dw (a ++ b) := fun x m => (List.mem_append.mp m).elim (h x) (k x)
theorem dw_fm (n : Int) : Dw [n.fmod 1000] := fun x m => by
  rw [List.mem_singleton] at m
  subst m
  rw [Int.fmod_eq_emod_of_nonneg _ (by decide)]
  exact ⟨Int.emod_nonneg _ (by decide), Int.emod_lt_of_pos _ (by decide)⟩
theorem Dw.rev {l : List Int} (h : Dw l) : Dw l.reverse := fun x m => h x (List.mem_reverse.mp m)
theorem Dw.tail {l : List Int} (h : Dw l) : Dw l.dropLast := fun x m => h x (List.dropLast_subset l m)
theorem inner_b (s : Option D) (o2 o4 o5 o6 : Option D) : ∀ (ds : List D) (acc : List Int) (n : Int), acc.length + ds.length < sizeLine → Dw acc →
    ∃ (acc' : List Int) (n' : Int) (o4' : Option D), loopL (mgName 4) mqInner ds [s, some (.lst (acc.map .int)), o2, some (.int n), o4, o5, o6] = .nx [s, some (.lst (acc'.map .int)), o2, some (.int n'), o4', o5, o6] ∧ acc'.length ≤ acc.length + ds.length ∧ Dw acc' := by
  intro ds
  induction ds generalizing o4 with
  | nil => exact fun acc n _ w => ⟨acc, n, o4, rfl, Nat.le_refl _, w⟩
  | cons d r ih =>
    intro acc n h w
    rw [List.length_cons] at h
    by_cases hn : n = 0
    · subst hn
      refine ⟨acc, 0, some d, ?_, by omega, w⟩
      simp [loopL, mqInner]
    · obtain ⟨acc', n', o4', e, l, w'⟩ := ih (some d) (acc ++ [n.fmod 1000]) (n.fdiv 1000) (by rw [List.length_append, List.length_singleton]; omega) (w.app (dw_fm n))
      refine ⟨acc', n', o4', ?_, by rw [List.length_append, List.length_singleton] at l; rw [List.length_cons]; omega, w'⟩
      rw [← e]
      have h1 : acc.length < sizeLine := by omega
      have h2 : ∀ x : Int, gDiv (.int x) (.int 1000) = some (.int (x.fdiv 1000)) := fun x => gDiv_sm (j := 10) (by decide) (by decide) (by decide) (by decide)
      simp [loopL, mqInner, hn, getO_1, gAppend, gMod_ii, h1, h2]
theorem body_b (s : Option D) : ∀ (cells acc : List Int) (o2 o3 o4 o5 o6 : Option D), acc.length + 60 * cells.length < sizeLine → Dw acc →
    ∃ (acc' : List Int) (o2' o3' o4' o5' o6' : Option D), loopL (mgName 2) mqBody (cells.map .int) [s, some (.lst (acc.map .int)), o2, o3, o4, o5, o6] = .nx [s, some (.lst (acc'.map .int)), o2', o3', o4', o5', o6'] ∧ acc'.length ≤ acc.length + 60 * cells.length ∧ Dw acc' := by
  intro cells
  induction cells with
  | nil => exact fun acc o2 o3 o4 o5 o6 _ w => ⟨acc, o2, o3, o4, o5, o6, rfl, Nat.le_refl _, w⟩
  | cons c r ih =>
    intro acc o2 o3 o4 o5 o6 h w
    rw [List.length_cons] at h
    rw [List.map_cons]
    by_cases hc : (1000000000000000000 : Int) ≤ (if c < 0 then -c else c)
    · obtain ⟨acc1, n1, o41, e1, l1, w1⟩ := inner_b s (some (.int c)) o4 o5 o6 (rangeL 0 60) acc (if c < 0 then -c else c) (by
        have : (rangeL 0 60).length = 60 := by simp [rangeL]
        omega) w
      have hl : (rangeL 0 60).length = 60 := by simp [rangeL]
      obtain ⟨acc', o2', o3', o4', o5', o6', e, l, w'⟩ := ih acc1 (some (.int c)) (some (.int n1)) o41 o5 o6 (by omega) w1
      refine ⟨acc', o2', o3', o4', o5', o6', ?_, by rw [List.length_cons]; omega, w'⟩
      rw [← e]
      have ok60 : okR 60 = true := by decide
      have e1' : loopL (mgName 4) mqInner (rangeL 0 60) [s, some (.lst (acc.map .int)), some (.int c), some (.int (if c < 0 then -c else c)), o4, o5, o6] = _ := e1
      have t60 : Int.toNat 60 = 60 := rfl
      simp only [loopL]
      simp [mqBody, mCall_R, qNumber_v, hc, ok60, e1']
    · have hs : (if c < 0 then -c else c).natAbs < 2 ^ 60 := by
        split <;> split at hc <;> omega
      have m1 := gMul_sm (a := if c < 0 then -c else c) (b := 48271) (i := 60) (j := 20) hs (by decide) (by decide) (by decide) (by decide)
      have p1 : ∀ x : Int, (x.fmod 2147483647).natAbs < 2 ^ 60 := fun x => by
        rw [Int.fmod_eq_emod_of_nonneg _ (by decide)]
        omega
      have m2' := fun x : Int => gMul_sm (a := x.fmod 2147483647) (b := 69621) (i := 60) (j := 20) (p1 x) (by decide) (by decide) (by decide) (by decide)
      obtain ⟨acc', o2', o3', o4', o5', o6', e, l, w'⟩ := ih (acc ++ [(if c < 0 then -c else c).fmod 1000, ((((if c < 0 then -c else c) * 48271 + 11).fmod 2147483647)).fmod 1000, ((((((if c < 0 then -c else c) * 48271 + 11).fmod 2147483647) * 69621 + (if c < 0 then -c else c)).fmod 2147483629)).fmod 1000])
        (some (.int c)) (some (.int (if c < 0 then -c else c))) o4 (some (.int (((if c < 0 then -c else c) * 48271 + 11).fmod 2147483647))) (some (.int (((((if c < 0 then -c else c) * 48271 + 11).fmod 2147483647) * 69621 + (if c < 0 then -c else c)).fmod 2147483629))) (by simp; omega) (w.app (((dw_fm _).app (dw_fm _)).app (dw_fm _)))
      refine ⟨acc', o2', o3', o4', o5', o6', ?_, by simp at l; rw [List.length_cons]; omega, w'⟩
      rw [← e]
      have h3 : 3 ≤ sizeLine := by decide
      have h4 : acc.length + 3 ≤ sizeLine := by omega
      simp only [loopL]
      simp [mqBody, mCall_R, qNumber_v, hc, m1, m2', gMod_ii, getO_1, gExtend, h3, h4]
end DL
namespace Q
open DL L2 PySem PySem.Spec PyProof.Rows
theorem qDraws2 (zs : List Int) (h : zs.length ≤ 63) : ∃ l : List Int, Dw l ∧ ∀ ρ, (F_law_draws_v2 [.scr (zs.map .int)]).R ρ = .ok (dl l) ρ := by
  have hz : sizeLine = 16777216 := by decide
  obtain ⟨acc', o2', o3', o4', o5', o6', e, l, w⟩ := body_b (some (.scr (zs.map .int))) zs [] none none none none none (by simp; omega) (fun _ h => nomatch h)
  refine ⟨acc'.reverse, w.rev, fun ρ => ?_⟩
  have e' : loopL (mgName 2) m_law_draws_v2_b1 (zs.map .int) [some (.scr (zs.map .int)), some (.lst []), none, none, none, none, none] = _ := e
  have h0 : 0 ≤ sizeLine := by decide
  simp [F_law_draws_v2, runM, m_law_draws_v2, pad, gIter, h0, e', getO_1, gReverse, dl]
end Q
namespace Q
open DL L2 PySem PySem.Spec PyProof.Rows
theorem asInts_map : ∀ xs : List Int, asInts (xs.map D.int) = some xs
  | [] => rfl
  | a :: xs => by
    rw [List.map_cons]
    unfold asInts
    rw [asInts_map xs]
    rfl
end Q
namespace Q
open DL L2 PySem PySem.Spec PyProof.Rows
end Q
namespace Q
open DL L2 PySem PySem.Spec PyProof.Rows
def RwI (W k : Nat) (r : List Int) : Prop := r.length = W ∧ ∀ x ∈ r, x.natAbs < 2 ^ k
theorem RwI.up {W i j : Nat} {r : List Int} (h : RwI W i r) (l : i ≤ j) : RwI W j r := ⟨h.1, fun x hx => sm_up (h.2 x hx) l⟩
theorem RwI.g {W k c : Nat} {r : List Int} (h : RwI W k r) (hc : c < W) : (r.getD c 0).natAbs < 2 ^ k := h.2 _ (getD_mem (by rw [h.1]; exact hc))
section
variable {d0 : D} {cs : Nat} {M : List (List Int)} {ps : List Nat} {o5 o6 o7 o8 o9 o10 o11 : Option D} {W k m top col : Nat} {T : List Int}
def MxI (m W k : Nat) (M : List (List Int)) : Prop := M.length = m ∧ ∀ r ∈ M, RwI W k r
theorem MxI.up {m W i j : Nat} {M : List (List Int)} (h : MxI m W i M) (l : i ≤ j) : MxI m W j M := ⟨h.1, fun r hr => (h.2 r hr).up l⟩
end
end Q
namespace Q
open DL L2 PySem PySem.Spec PyProof.Rows
section
variable {M : List (List Int)} {ps : List Nat} {W m c : Nat}
abbrev en (M : List (List Int)) (i j : Nat) : Int := (M.getD i []).getD j 0
end
end Q
namespace Q
open DL L2 PySem PySem.Spec PyProof.Rows
abbrev tix (ix : List Nat) : D := .tup (ix.map fun i => D.int (i : Nat))
end Q
namespace Q
open DL L2 PySem PySem.Spec PyProof.Rows
end Q
namespace Q
open DL L2 PySem PySem.Spec PyProof.Rows
end Q
namespace Q
open DL L2 PySem PySem.Spec PyProof.Rows
abbrev Tie := List Nat × List Int
end Q
namespace Q
open DL L2 PySem PySem.Spec PyProof.Rows
end Q
namespace Q
open DL L2 PySem PySem.Spec PyProof.Rows
def Tq (B : Nat) (x : Rat) : Prop := ∃ N : Int, x * 12 = (N : Rat) ∧ N.natAbs ≤ B
theorem Tq.zero : Tq 0 0 := ⟨0, by simp, by decide⟩
theorem Tq.up {A B : Nat} {x : Rat} (h : Tq A x) (l : A ≤ B) : Tq B x := let ⟨N, e, b⟩ := h; ⟨N, e, Nat.le_trans b l⟩
theorem Tq.add {A B : Nat} {x y : Rat} (h1 : Tq A x) (h2 : Tq B y) : Tq (A + B) (x + y) := by
  obtain ⟨N, e, b⟩ := h1
  obtain ⟨M, e', b'⟩ := h2
  refine ⟨N + M, ?_, by omega⟩
  rw [Rat.add_mul, e, e', Rat.intCast_add]
theorem Tq.sz {B a : Nat} {x : Rat} (h : Tq B x) (hb : B < 2 ^ a) (ha : 4 ≤ a) : Sz a x := by
  obtain ⟨N, e, b⟩ := h
  have h16 : (12 : Nat) < 2 ^ a := Nat.lt_of_lt_of_le (by decide : 12 < 2 ^ 4) (Nat.pow_le_pow_right (by decide) ha)
  refine Cd.sz (d := 12) (by decide) (by simpa using h16) ⟨N, ?_, by omega⟩
  rw [← e]
  rfl
section
variable {n : Nat} {ps : List (List Int)} {F : List Tie} {ys : List Rat} {o5 o6 o7 o8 o9 o10 : Option D}
theorem ixT {ix : List Nat} {c : Nat} (h : c < ix.length) : gIx (tix ix) (.int (c : Int)) = some (.int (ix.getD c 0 : Nat)) := by
  show L2.atI (ix.map fun i => D.int (i : Nat)) (c : Int) = _
  rw [atI_nat' _ c (by rw [List.length_map]; exact h), List.getElem_map]
  simp [List.getD, h]
end
end Q
namespace Q
open DL L2 PySem PySem.Spec PyProof.Rows
end Q
namespace Q
open DL L2 PySem PySem.Spec PyProof.Rows
end Q
namespace Q
open DL L2 PySem PySem.Spec PyProof.Rows
end Q
namespace Q
open DL L2 PySem PySem.Spec PyProof.Rows
end Q
namespace Q
open DL L2 PySem PySem.Spec PyProof.Rows
end Q
namespace Q
open DL L2 PySem PySem.Spec PyProof.Rows
def qkBadNumber (k : Str) : Bool := decide (k = "BadNumber")
def qkNoAnswer (k : Str) : Bool := decide (k = "NoAnswer")
def qkNotFlat (k : Str) : Bool := decide (k = "NotFlat")
def qkNotNumber (k : Str) : Bool := decide (k = "NotNumber")
def qkNotPoint (k : Str) : Bool := decide (k = "NotPoint")
def qkNotRow (k : Str) : Bool := decide (k = "NotRow")
def qkPlaneError (k : Str) : Bool := decide (k = "PlaneError") || decide (k = "NotNumber") || decide (k = "NotPoint") || decide (k = "NotPlanes") || decide (k = "NotRow") || decide (k = "NotFlat") || decide (k = "BadNumber") || decide (k = "NoAnswer") || decide (k = "TooLarge")
def qkTooLarge (k : Str) : Bool := decide (k = "TooLarge")
def q_law_kind (k : Str) : MS := (msForget 1 (msSeq (msOwn 1 (mN gLst mNil)) (msSeq (msIf (mTru (mK (.bl (qkNotRow k)))) (msExpr (mOM gAppend 1 (mCons (mK (.str "row")) mNil))) msNil) (msSeq (msIf (mTru (mK (.bl (qkNotPoint k)))) (msExpr (mOM gAppend 1 (mCons (mK (.str "point")) mNil))) msNil) (msSeq (msIf (mTru (mK (.bl (qkNotNumber k)))) (msExpr (mOM gAppend 1 (mCons (mK (.str "value")) mNil))) msNil) (msSeq (msIf (mTru (mK (.bl (qkNotFlat k)))) (msExpr (mOM gAppend 1 (mCons (mK (.str "flat")) mNil))) msNil) (msSeq (msIf (mTru (mK (.bl (qkBadNumber k)))) (msExpr (mOM gAppend 1 (mCons (mK (.str "number")) mNil))) msNil) (msSeq (msIf (mTru (mK (.bl (qkNoAnswer k)))) (msExpr (mOM gAppend 1 (mCons (mK (.str "answer")) mNil))) msNil) (msSeq (msIf (mTru (mK (.bl (qkTooLarge k)))) (msExpr (mOM gAppend 1 (mCons (mK (.str "large")) mNil))) msNil) (msSeq (msIf (mAndT (mTest (m2 gEq (mNO gLen 1) (mK (.int 1)))) (mTru (mK (.bl (qkPlaneError k))))) (msRet (m2 gAdd (mK (.str "!")) (m2B gIx (.ow 1) (.ex (mK (.int 0)))))) msNil) (msRet (mK (.str "!other")))))))))))))
def qKind : Str → Ret := runX 2 q_law_kind
theorem kind_flat : qKind "NotFlat" = .rt (.str "!flat") .non := by kernel_rfl
theorem kind_number : qKind "BadNumber" = .rt (.str "!number") .non := by kernel_rfl
theorem kind_answer : qKind "NoAnswer" = .rt (.str "!answer") .non := by kernel_rfl
end Q
namespace Q
open DL L2 PySem PySem.Spec PyProof.Rows
end Q
namespace Q
open DL L2 PySem PySem.Spec PyProof.Rows
end Q
namespace Q
open DL L2 PySem PySem.Spec PyProof.Rows
end Q
namespace Q
open DL L2 PySem PySem.Spec PyProof.Rows
end Q
namespace Q
open DL L2 PySem PySem.Spec PyProof.Rows
end Q
namespace Q
open DL L2 PySem PySem.Spec PyProof.Rows
section
variable {n : Nat} {ps : List (List Int)} {w ix : List Nat} {fs : List Int} {d : D}
abbrev Et (ps : List (List Int)) (w ix : List Nat) (fs : List Int) (b : Bool) (o5 o6 o7 : Option D) : En := [some (.tup (ps.map pl)), some (sD w), some (tix ix), some (pl fs), some (.bl b), o5, o6, o7, none]
end
end Q
namespace Q
open DL L2 PySem PySem.Spec PyProof.Rows
end Q
namespace Q
open DL L2 PySem PySem.Spec PyProof.Rows
end Q
namespace Q
open DL L2 PySem PySem.Spec PyProof.Rows
section
variable {n : Nat} {ps : List (List Int)} {w : List Nat} {F : List Tie}
abbrev Ep (n : Nat) (ps : List (List Int)) (w : List Nat) (L : List D) (o3 o4 o5 o6 : Option D) : En := [some (PO n ps), some (sD w), some (.lst L), o3, o4, o5, o6, none]
end
end Q
namespace Q
open DL L2 PySem PySem.Spec PyProof.Rows
end Q
namespace Q
open DL L2 PySem PySem.Spec PyProof.Rows
end Q
namespace Q
open DL L2 PySem PySem.Spec PyProof.Rows
end Q
namespace Q
open DL L2 PySem PySem.Spec PyProof.Rows
end Q
namespace Q
open DL L2 PySem PySem.Spec PyProof.Rows
end Q
namespace Q
open DL L2 PySem PySem.Spec PyProof.Rows
end Q
namespace Q
open DL L2 PySem PySem.Spec PyProof.Rows
end Q
namespace Q
open DL L2 PySem PySem.Spec PyProof.Rows
end Q
namespace Q
open DL L2 PySem PySem.Spec PyProof.Rows
end Q
namespace Q
open DL L2 PySem PySem.Spec PyProof.Rows
end Q
namespace Q
open DL L2 PySem PySem.Spec PyProof.Rows
end Q
namespace Q
open DL L2 PySem PySem.Spec PyProof.Rows
end Q
namespace Q
open DL L2 PySem PySem.Spec PyProof.Rows
end Q
namespace Q
open DL L2 PySem PySem.Spec PyProof.Rows
end Q
namespace Q
open DL L2 PySem PySem.Spec PyProof.Rows
end Q
namespace Q
open DL L2 PySem PySem.Spec PyProof.Rows
end Q
namespace Q
open DL PySem PySem.Spec PyProof.Rows
abbrev ixA (as : List Int) : D := .tup (as.map .int)
section
variable {n : Nat} {ps : List (List Int)} {as : List Int} {ks : List Nat}
def inRA (L : Nat) (as : List Int) : Bool := as.all fun a => decide (0 ≤ a ∧ a < L)
def ascBA (as : List Int) : Bool := (List.range (as.length - 1)).all fun t => decide (as.getD t 0 < as.getD (t + 1) 0)
theorem atI_intA {as : List Int} {t : Nat} (h : t < as.length) : gIx (ixA as) (.int (t : Int)) = some (.int (as.getD t 0)) := by
  show L2.atI (as.map D.int) (t : Int) = _
  rw [atI_nat' _ t (by rw [List.length_map]; exact h), List.getElem_map]
  simp [List.getD, h]
theorem onlyOk {ix : List Nat} (ha : ix.Pairwise (· < ·)) (hi : ∀ a ∈ ix, a < ps.length) : inRA ps.length (ix.map fun i : Nat => (i : Int)) = true ∧ ascBA (ix.map fun i : Nat => (i : Int)) = true := by
  refine ⟨List.all_eq_true.mpr fun a h => ?_, List.all_eq_true.mpr fun t h => ?_⟩
  · obtain ⟨i, hm, rfl⟩ := List.mem_map.mp h
    have := hi i hm
    exact decide_eq_true ⟨by omega, by omega⟩
  · have ht := List.mem_range.mp h
    rw [List.length_map] at ht
    rw [List.pairwise_iff_getElem] at ha
    have := ha t (t + 1) (by omega) (by omega) (by omega)
    refine decide_eq_true ?_
    have e : ∀ k (hk : k < ix.length), (ix.map fun i : Nat => (i : Int)).getD k 0 = ((ix[k] : Nat) : Int) := fun k hk => by simp [List.getD, hk]
    rw [e t (by omega), e (t + 1) (by omega)]
    omega
end
end Q
namespace Q
open DL PySem PySem.Spec PyProof.Rows
end Q
namespace Q
open DL PySem PySem.Spec PyProof.Rows
section
variable {p : List Int} {k : Nat} {P : D}
theorem mOM_go {g : List D → List D → Option (D × List D)} {j : Nat} {args : MA} {ρ ρ1 : En} {L ds cs cs2 : List D} {z : D} (h0 : getO ρ j = some (.lst L)) (h1 : args ρ = .ok ds ρ1) (h2 : getO ρ1 j = some (.lst cs)) (h3 : g cs ds = some (z, cs2)) : mOM g j args ρ = .ok z (ρ1.set j (some (.lst cs2))) := by
  unfold mOM
  rw [h0]
  show R.bind (args ρ) _ = _
  rw [h1, bind_ok, h2]
  show (match g cs ds with | some (z, cs') => _ | none => _) = _
  rw [h3]
end
end Q
namespace Q
open DL PySem PySem.Spec PyProof.Rows
end Q
namespace Q
open DL L2 PySem PySem.Spec PyProof.Rows
end Q
namespace Q
open DL PySem PySem.Spec PyProof.Rows
theorem gl_loop {F : FN} (hv : ∀ (g : Nat) (a : Int), a.natAbs < 2 ^ 8000 → ∀ ρ, (F [.int (g : Int), .int a]).R ρ = .ok (.int (Int.gcd g a : Nat)) ρ) (d : D) (r : En) : ∀ (ys : List Int) (g : Nat) (o : Option D), (∀ a ∈ ys, a.natAbs < 2 ^ 8000) → ∃ o', loopL (mgName 2) (msAsg (mCall F (mCons (mVar 1) (mCons (mVar 2) mNil))) (mgName 1)) (ys.map D.int) (some d :: some (.int (g : Nat)) :: o :: r) = .nx (some d :: some (.int (gcdL ys g : Nat)) :: o' :: r)
  | [], g, o, _ => ⟨o, rfl⟩
  | a :: ys, g, o, hy => by
    obtain ⟨o', e⟩ := gl_loop hv d r ys (Int.gcd g a) (some (.int a)) fun z hz => hy z (List.mem_cons_of_mem _ hz)
    refine ⟨o', ?_⟩
    have hv1 := hv g a (hy a List.mem_cons_self)
    rw [List.map_cons, gcdL_cons, ← e]
    refine loop_step (ρ1 := some d :: some (.int (g : Nat)) :: some (.int a) :: r) rfl ?_
    generalize ((Int.gcd (g : Int) a : Nat) : Int) = n0 at *
    generalize (g : Int) = gi at *
    simp -implicitDefEqProofs [mCall_R, hv1]
theorem hv_l (g : Nat) (a : Int) (h : a.natAbs < 2 ^ 8000) (ρ : En) : (F_law_divisor [.int (g : Int), .int a]).R ρ = .ok (.int (Int.gcd g a : Nat)) ρ := by
  rw [e_ldiv]; exact qLDivisor_v (g : Int) a h ρ
theorem hv_p (g : Nat) (a : Int) (h : a.natAbs < 2 ^ 8000) (ρ : En) : (Fdivisor [.int (g : Int), .int a]).R ρ = .ok (.int (Int.gcd g a : Nat)) ρ := by
  rw [e_div]; exact qDivisor_v (g : Int) a h ρ
def shortI (row : List Int) : List Int := if gcdL row 0 < 2 then row else row.map fun a => a.fdiv (gcdL row 0 : Nat)
theorem gcdL_small {xs : List Int} {k : Nat} (hx : ∀ a ∈ xs, a.natAbs < 2 ^ k) (h0 : gcdL xs 0 ≠ 0) : gcdL xs 0 < 2 ^ k := by
  by_cases c : ∃ a ∈ xs, a ≠ 0
  · obtain ⟨a, ha, h⟩ := c
    have d := (gcdL_dvd xs 0).2 a ha
    have : gcdL xs 0 ≤ a.natAbs := Nat.le_of_dvd (by omega) (Int.ofNat_dvd_left.mp d)
    have := hx a ha
    omega
  · have z : ∀ a ∈ xs, a = 0 := fun a ha => by
      by_cases q : a = 0
      · exact q
      · exact absurd ⟨a, ha, q⟩ c
    have : ∀ (ys : List Int), (∀ a ∈ ys, a = 0) → gcdL ys 0 = 0 := by
      intro ys
      induction ys with
      | nil => exact fun _ => rfl
      | cons a ys ih =>
        intro h
        rw [gcdL_cons, h a List.mem_cons_self]
        exact ih fun b hb => h b (List.mem_cons_of_mem _ hb)
    exact absurd (this xs z) h0
theorem shortI_len (row : List Int) : (shortI row).length = row.length := by
  unfold shortI
  split
  · rfl
  · rw [List.length_map]
theorem shortI_sz {row : List Int} {k : Nat} (h : ∀ a ∈ row, a.natAbs < 2 ^ k) : ∀ a ∈ shortI row, a.natAbs < 2 ^ k := by
  unfold shortI
  split
  · exact h
  · intro a ha
    obtain ⟨b, hb, rfl⟩ := List.mem_map.mp ha
    have hb2 := h b hb
    have d := (gcdL_dvd row 0).2 b hb
    obtain ⟨c, hc⟩ := d
    have gp : (0 : Int) < ((gcdL row 0 : Nat) : Int) := by omega
    have e : b.fdiv ((gcdL row 0 : Nat) : Int) = c := by
      rw [hc, Int.mul_fdiv_cancel_left _ (by omega)]
    rw [e]
    have : b.natAbs = gcdL row 0 * c.natAbs := by rw [hc, Int.natAbs_mul, Int.natAbs_natCast]
    have : c.natAbs ≤ b.natAbs := by rw [this]; exact Nat.le_mul_of_pos_left _ (by omega)
    omega
section
variable {row : List Int} {d : D}
theorem v_lshort (hd : Sq d (row.map .int)) (hl : row.length ≤ 1000) (hs : ∀ a ∈ row, a.natAbs < 2 ^ 8000) (ρ : En) : (F_law_short [d]).R ρ = .ok (pl (shortI row)) ρ := by
  have sz := szv
  obtain ⟨o', e2⟩ := gl_loop hv_l d [] row 0 none hs
  have hit := hd.iter
  have gt := hd.gtup
  have lt : decide (((gcdL row 0 : Nat) : Int) < 2) = decide (gcdL row 0 < 2) := by rw [decide_eq_decide]; omega
  rw [show ((0 : Nat) : Int) = 0 from rfl] at e2
  have go : m_law_short [some d, none, none] = .rt (pl (shortI row)) [some d, some (.int (gcdL row 0 : Nat)), o'] := by
    have e0 : (msAsg (mK (.int 0)) (mgName 1)) [some d, none, none] = .nx [some d, some (.int 0), none] := rfl
    have e1 : (msFor (mIter (mVar 0)) (mgName 2) m_law_short_b0) [some d, some (.int 0), none] = .nx [some d, some (.int (gcdL row 0 : Nat)), o'] := by
      have eb : m_law_short_b0 = (msAsg (mCall F_law_divisor (mCons (mVar 1) (mCons (mVar 2) mNil))) (mgName 1)) := rfl
      rw [eb]
      generalize msAsg (mCall F_law_divisor (mCons (mVar 1) (mCons (mVar 2) mNil))) (mgName 1) = B at *
      generalize row.map D.int = L at *
      simp -implicitDefEqProofs [hit, e2]
    unfold m_law_short
    rw [seq_nx e0, seq_nx e1]
    unfold shortI
    by_cases c : gcdL row 0 < 2
    · rw [decide_eq_true c] at lt
      rw [if_pos c]
      have gt' : gTuple [d] = some (pl row) := gt
      generalize pl row = P at *
      generalize ((gcdL row 0 : Nat) : Int) = g at *
      simp -implicitDefEqProofs [lt, gt']
    · rw [decide_eq_false c] at lt
      rw [if_neg c]
      have gsm := gcdL_small hs (by omega)
      have lc := mLc_map (as := row) (enc := D.int) (vs := [2]) (g := mgName 2) (mi := mIter (mVar 0)) (me := m2 gDiv (mVar 2) (mVar 1)) (ρ0 := [some d, some (.int (gcdL row 0 : Nat)), o']) (ρ := [some d, some (.int (gcdL row 0 : Nat)), o'])
        (st := fun a => [some d, some (.int (gcdL row 0 : Nat)), some (.int a)]) (f := fun a => .int (a.fdiv (gcdL row 0 : Nat))) (by
          generalize row.map D.int = L at *
          simp -implicitDefEqProofs [hit]) (by omega) (fun _ => rfl) (fun _ _ => rfl) (fun a _ => by
          have gd := gDiv_sm (a := a) (b := ((gcdL row 0 : Nat) : Int)) (j := 8000) (by omega) (by rw [Int.natAbs_natCast]; exact gsm) (by decide) (by decide)
          generalize a.fdiv ((gcdL row 0 : Nat) : Int) = q at *
          generalize ((gcdL row 0 : Nat) : Int) = g at *
          simp -implicitDefEqProofs [gd])
      have gt' : gTuple [.lst (row.map fun a => .int (a.fdiv (gcdL row 0 : Nat)))] = some (pl (row.map fun a => a.fdiv (gcdL row 0 : Nat))) := by
        show some (D.tup _) = some (D.tup _)
        rw [List.map_map]
        rfl
      generalize pl (row.map fun a => a.fdiv (gcdL row 0 : Nat)) = P at *
      generalize row.map (fun a => D.int (a.fdiv (gcdL row 0 : Nat))) = M at *
      generalize ((gcdL row 0 : Nat) : Int) = g at *
      generalize mLc [2] (mIter (mVar 0)) (mgName 2) mYes (m2 gDiv (mVar 2) (mVar 1)) = mL at *
      simp -implicitDefEqProofs [lt, lc, gt']
  have := runM_rt (n := 3) (np := 1) (dd := []) (fr := false) (m := m_law_short) (ds := [d]) rfl go
  unfold F_law_short
  rw [this, Ret.R_rt]
theorem v_commonOf (hd : Sq d (row.map .int)) (hs : ∀ a ∈ row, a.natAbs < 2 ^ 8000) (ρ : En) : (Fcommon_of [d]).R ρ = .ok (.int (gcdL row 0 : Nat)) ρ := by
  obtain ⟨o', e2⟩ := gl_loop hv_p d [] row 0 none hs
  have hit := hd.iter
  rw [show ((0 : Nat) : Int) = 0 from rfl] at e2
  have eb : mcommon_of_b0 = (msAsg (mCall Fdivisor (mCons (mVar 1) (mCons (mVar 2) mNil))) (mgName 1)) := rfl
  have go : mcommon_of [some d, none, none] = .rt (.int (gcdL row 0 : Nat)) [some d, some (.int (gcdL row 0 : Nat)), o'] := by
    unfold mcommon_of
    rw [eb]
    generalize msAsg (mCall Fdivisor (mCons (mVar 1) (mCons (mVar 2) mNil))) (mgName 1) = B at *
    generalize row.map D.int = L at *
    generalize ((gcdL row 0 : Nat) : Int) = g at *
    simp -implicitDefEqProofs [hit, e2]
  have := runM_rt (n := 3) (np := 1) (dd := []) (fr := false) (m := mcommon_of) (ds := [d]) rfl go
  unfold Fcommon_of
  rw [this, Ret.R_rt]
theorem v_short (hd : Sq d (row.map .int)) (hl : row.length ≤ 1000) (hs : ∀ a ∈ row, a.natAbs < 2 ^ 8000) (ρ : En) : (Fshortened [d, .int 0]).R ρ = .ok (pl (shortI row)) ρ := by
  have sz := szv
  have vc := fun ρ => v_commonOf hd hs ρ
  have hit := hd.iter
  have gt := hd.gtup
  have lt : decide (((gcdL row 0 : Nat) : Int) < 2) = decide (gcdL row 0 < 2) := by rw [decide_eq_decide]; omega
  have go : mshortened [some d, some (.int 0), none, none] = .rt (pl (shortI row)) [some d, some (.int 0), none, some (.int (gcdL row 0 : Nat))] := by
    unfold shortI
    by_cases c : gcdL row 0 < 2
    · rw [decide_eq_true c] at lt
      rw [if_pos c]
      have gt' : gTuple [d] = some (pl row) := gt
      generalize pl row = P at *
      generalize ((gcdL row 0 : Nat) : Int) = g at *
      simp -implicitDefEqProofs [mshortened, mCall_R, vc, lt, gt']
    · rw [decide_eq_false c] at lt
      rw [if_neg c]
      have gsm := gcdL_small hs (by omega)
      have lc := mLc_map (as := row) (enc := D.int) (vs := [2]) (g := mgName 2) (mi := mIter (mVar 0)) (me := m2 gDiv (mVar 2) (mVar 3)) (ρ0 := [some d, some (.int 0), none, some (.int (gcdL row 0 : Nat))]) (ρ := [some d, some (.int 0), none, some (.int (gcdL row 0 : Nat))])
        (st := fun a => [some d, some (.int 0), some (.int a), some (.int (gcdL row 0 : Nat))]) (f := fun a => .int (a.fdiv (gcdL row 0 : Nat))) (by
          generalize row.map D.int = L at *
          simp -implicitDefEqProofs [hit]) (by omega) (fun _ => rfl) (fun _ _ => rfl) (fun a _ => by
          have gd := gDiv_sm (a := a) (b := ((gcdL row 0 : Nat) : Int)) (j := 8000) (by omega) (by rw [Int.natAbs_natCast]; exact gsm) (by decide) (by decide)
          generalize a.fdiv ((gcdL row 0 : Nat) : Int) = q at *
          generalize ((gcdL row 0 : Nat) : Int) = g at *
          simp -implicitDefEqProofs [gd])
      have gt' : gTuple [.lst (row.map fun a => .int (a.fdiv (gcdL row 0 : Nat)))] = some (pl (row.map fun a => a.fdiv (gcdL row 0 : Nat))) := by
        show some (D.tup _) = some (D.tup _)
        rw [List.map_map]
        rfl
      generalize pl (row.map fun a => a.fdiv (gcdL row 0 : Nat)) = P at *
      generalize row.map (fun a => D.int (a.fdiv (gcdL row 0 : Nat))) = M at *
      generalize ((gcdL row 0 : Nat) : Int) = g at *
      unfold mshortened
      generalize mLc [2] (mIter (mVar 0)) (mgName 2) mYes (m2 gDiv (mVar 2) (mVar 3)) = mL at *
      simp -implicitDefEqProofs [mCall_R, vc, lt, lc, gt']
  have := runM_rt (n := 4) (np := 2) (dd := []) (fr := false) (m := mshortened) (ds := [d, .int 0]) rfl go
  unfold Fshortened
  rw [this, Ret.R_rt]
end
end Q
namespace Q
open DL PySem PySem.Spec PyProof.Rows
abbrev Own := Nat × List Int
def ownD (e : Own) : D := .tup [.int (e.1 : Nat), pl e.2]
def crossI (row : List Int) (e : Own) : List Int := (List.range row.length).map fun j => e.2.getD e.1 0 * row.getD j 0 - row.getD e.1 0 * e.2.getD j 0
def elimS (row : List Int) (e : Own) : List Int := if row.getD e.1 0 ≠ 0 then shortI (crossI row e) else row
def restL (F : List Own) (row : List Int) : List Int := F.foldl elimS row
def nzs (w : Nat) (r : List Int) : List Nat := (List.range w).filter fun j => decide (r.getD j 0 ≠ 0)
def firstNZ (w : Nat) (r : List Int) : Option Nat := (nzs w r).head?
def stepL (w : Nat) (F : List Own) (row : List Int) : List Own := match firstNZ w (restL F row) with
  | some p => F ++ [(p, restL F row)]
  | none => F
def rankS (w : Nat) (rows : List (List Int)) : List Own := rows.foldl (stepL w) []
def rankL (w : Nat) (rows : List (List Int)) : Nat := (rankS w rows).length
def zz (B j : Nat) : Nat := (B + 1) * 2 ^ j - 1
theorem zz_0 (B : Nat) : zz B 0 = B := by unfold zz; simp
theorem zz_s (B j : Nat) : zz B (j + 1) = zz B j + zz B j + 1 := by
  unfold zz
  have : (B + 1) * 2 ^ (j + 1) = (B + 1) * 2 ^ j + (B + 1) * 2 ^ j := by rw [Nat.pow_succ, ← Nat.mul_assoc]; omega
  have h : 1 ≤ (B + 1) * 2 ^ j := Nat.mul_pos (by omega) (Nat.two_pow_pos j)
  omega
theorem zz_mono (B : Nat) {i j : Nat} (h : i ≤ j) : zz B i ≤ zz B j := by
  induction h with
  | refl => exact Nat.le_refl _
  | step _ ih => rw [Nat.succ_eq_add_one, zz_s]; omega
def szR (m k : Nat) (r : List Int) : Prop := r.length = m ∧ ∀ a ∈ r, a.natAbs < 2 ^ k
theorem szR.get {m k : Nat} {r : List Int} (h : szR m k r) (j : Nat) : (r.getD j 0).natAbs < 2 ^ k := by
  by_cases c : j < r.length
  · exact h.2 _ (getD_mem c)
  · rw [List.getD_eq_getElem?_getD, List.getElem?_eq_none (by omega)]
    exact Nat.two_pow_pos k
theorem szR.up {m k k' : Nat} {r : List Int} (h : szR m k r) (l : k ≤ k') : szR m k' r := ⟨h.1, fun a ha => sm_up (h.2 a ha) l⟩
theorem cross_sz {m k : Nat} {row : List Int} {e : Own} (hr : szR m k row) (he : szR m k e.2) : szR m (k + k + 1) (crossI row e) := by
  refine ⟨by unfold crossI; rw [List.length_map, List.length_range]; exact hr.1, fun a ha => ?_⟩
  unfold crossI at ha
  obtain ⟨j, _, rfl⟩ := List.mem_map.mp ha
  exact sm_sub (sm_mul (he.get _) (hr.get _)) (sm_mul (hr.get _) (he.get _))
theorem elim_sz {m k : Nat} {row : List Int} {e : Own} (hr : szR m k row) (he : szR m k e.2) : szR m (k + k + 1) (elimS row e) := by
  unfold elimS
  split
  · have h := cross_sz hr he
    exact ⟨by rw [shortI_len]; exact h.1, shortI_sz h.2⟩
  · exact hr.up (by omega)
def SzF (m w B : Nat) (F : List Own) : Prop := ∀ j e, F[j]? = some e → e.1 < w ∧ szR m (zz B j) e.2
theorem SzF.nil {m w B : Nat} : SzF m w B [] := fun j e h => by cases j <;> cases h
theorem SzF.snoc {m w B : Nat} {F : List Own} (h : SzF m w B F) {p : Nat} {r : List Int} (hp : p < w) (hr : szR m (zz B F.length) r) : SzF m w B (F ++ [(p, r)]) := fun j e he => by
  by_cases c : j < F.length
  · rw [List.getElem?_append_left c] at he
    exact h j e he
  · rw [List.getElem?_append_right (by omega)] at he
    by_cases c2 : j = F.length
    · subst c2
      rw [Nat.sub_self] at he
      cases he
      exact ⟨hp, hr⟩
    · have : 1 ≤ j - F.length := by omega
      rw [List.getElem?_eq_none (by simp; omega)] at he
      cases he
theorem SzF.init {m w B : Nat} {F : List Own} {e : Own} (h : SzF m w B (F ++ [e])) : SzF m w B F := fun j x hx => h j x (by rw [List.getElem?_append_left (List.getElem?_eq_some_iff.mp hx).1]; exact hx)
theorem rest_sz {m w B : Nat} {row : List Int} (hr : szR m B row) : ∀ (k : Nat) (F : List Own), F.length = k → SzF m w B F → szR m (zz B k) (restL F row)
  | 0, F, hl, _ => by
    rw [List.length_eq_zero_iff.mp hl, zz_0]
    exact hr
  | k + 1, F, hl, h => by
    have hne : F ≠ [] := fun z => by rw [z] at hl; cases hl
    have e := List.dropLast_concat_getLast hne
    have hl2 : F.dropLast.length = k := by rw [List.length_dropLast]; omega
    rw [← e] at h ⊢
    have ih := rest_sz hr k F.dropLast hl2 h.init
    unfold restL at ih ⊢
    rw [List.foldl_append, List.foldl_cons, List.foldl_nil, zz_s]
    have hk := h k (F.getLast hne) (by rw [List.getElem?_append_right (by omega), hl2, Nat.sub_self]; rfl)
    exact elim_sz ih hk.2
theorem nzs_lt {w : Nat} {r : List Int} {p : Nat} (h : firstNZ w r = some p) : p < w ∧ r.getD p 0 ≠ 0 := by
  have hm : p ∈ nzs w r := List.mem_of_head? h
  unfold nzs at hm
  rw [List.mem_filter, List.mem_range] at hm
  exact ⟨hm.1, of_decide_eq_true hm.2⟩
theorem step_sz {m w B : Nat} {F : List Own} {row : List Int} (h : SzF m w B F) (hr : szR m B row) : SzF m w B (stepL w F row) ∧ (stepL w F row).length ≤ F.length + 1 := by
  unfold stepL
  cases c : firstNZ w (restL F row) with
  | none => exact ⟨h, Nat.le_succ _⟩
  | some p => exact ⟨h.snoc (nzs_lt c).1 (rest_sz hr F.length F rfl h), by simp⟩
theorem ix_row {row : List Int} {j : Nat} (h : j < row.length) : gIx (pl row) (.int (j : Int)) = some (.int (row.getD j 0)) := ix_pl h
abbrev Erk (R : D) (w : Int) (o2 : Option D) (P : D) (o4 o5 o6 o7 : Option D) : En := [some R, some (.int w), o2, some P, o4, o5, o6, o7]
theorem rb1_go {m k : Nat} {row : List Int} {e : Own} (hm : m ≤ 1000) (hp : e.1 < m) (hr : szR m k row) (he : szR m k e.2) (hk : k + k + 1 ≤ 8000) (R : D) (w : Int) (o6 o7 : Option D) : m_law_rank_b1 (Erk R w none (pl row) (some (.int (e.1 : Nat))) (some (pl e.2)) o6 o7) = .nx (Erk R w none (pl (elimS row e)) (some (.int (e.1 : Nat))) (some (pl e.2)) o6 o7) := by
  have sz := szv
  have i0 := ix_row (row := row) (j := e.1) (by rw [hr.1]; exact hp)
  have i1 := ix_row (row := e.2) (j := e.1) (by rw [he.1]; exact hp)
  unfold elimS
  by_cases c : row.getD e.1 0 = 0
  · rw [if_neg (by simpa using c)]
    rw [c] at i0
    generalize pl row = P at *
    generalize pl e.2 = P2 at *
    generalize (e.1 : Int) = p at *
    simp -implicitDefEqProofs [m_law_rank_b1, i0]
  · rw [if_pos c]
    have gl : gLen [pl row] = some (.int (row.length : Nat)) := by simp [gLen, pl]
    have rg := range1 (n := row.length) (by rw [hr.1]; omega)
    have lc := mLc_map (as := List.range row.length) (enc := fun i => D.int (i : Nat)) (vs := [6]) (g := mgName 6) (mi := mItN gRange1 (mCons (mN gLen (mCons (mVar 3) mNil)) mNil)) (me := m_law_rank_e0) (ρ0 := Erk R w none (pl row) (some (.int (e.1 : Nat))) (some (pl e.2)) o6 o7) (ρ := Erk R w none (pl row) (some (.int (e.1 : Nat))) (some (pl e.2)) o6 o7)
      (st := fun j => Erk R w none (pl row) (some (.int (e.1 : Nat))) (some (pl e.2)) (some (.int (j : Nat))) o7) (f := fun j => .int (e.2.getD e.1 0 * row.getD j 0 - row.getD e.1 0 * e.2.getD j 0)) (by
        generalize (List.range row.length).map (fun i => D.int (i : Nat)) = RL at *
        generalize pl row = P at *
        generalize pl e.2 = P2 at *
        simp -implicitDefEqProofs [gl, rg]) (by rw [List.length_range, hr.1]; omega) (fun _ => rfl) (fun _ _ => rfl) (fun j hj => by
        have hj := List.mem_range.mp hj
        have j0 := ix_row (row := row) (j := j) hj
        have j1 := ix_row (row := e.2) (j := j) (by rw [he.1, ← hr.1]; exact hj)
        have m1 := mulS (he.get e.1) (hr.get j) (show k + k ≤ 8000 by omega)
        have m2 := mulS (hr.get e.1) (he.get j) (show k + k ≤ 8000 by omega)
        generalize e.2.getD e.1 0 = a at *
        generalize row.getD j 0 = b at *
        generalize row.getD e.1 0 = c0 at *
        generalize e.2.getD j 0 = d at *
        generalize pl row = P at *
        generalize pl e.2 = P2 at *
        generalize (e.1 : Int) = p at *
        generalize (j : Int) = ji at *
        simp -implicitDefEqProofs [m_law_rank_e0, i0, i1, j0, j1, m1, m2])
    have em : (List.range row.length).map (fun j => D.int (e.2.getD e.1 0 * row.getD j 0 - row.getD e.1 0 * e.2.getD j 0)) = (crossI row e).map D.int := by
      unfold crossI
      rw [List.map_map]
      rfl
    rw [em] at lc
    have cs := cross_sz hr he
    have vs := fun ρ => v_lshort (Sq.lst ((crossI row e).map D.int)) (by rw [cs.1]; omega) (fun a ha => s8 (cs.2 a ha) hk) ρ
    generalize pl (shortI (crossI row e)) = X at *
    generalize (crossI row e).map D.int = M at *
    generalize row.getD e.1 0 = c0 at *
    generalize e.2.getD e.1 0 = a0 at *
    generalize pl row = P at *
    generalize pl e.2 = P2 at *
    generalize (e.1 : Int) = p at *
    unfold m_law_rank_b1
    generalize mLc [6] (mItN gRange1 (mCons (mN gLen (mCons (mVar 3) mNil)) mNil)) (mgName 6) mYes m_law_rank_e0 = mL at *
    simp -implicitDefEqProofs [i0, c, lc, mCall_R, vs]
theorem rfor_go {m w0 B : Nat} {row : List Int} (hm : m ≤ 1000) (hr : szR m B row) (R : D) (w : Int) (o6 o7 : Option D) (hw : w0 ≤ m) (hz : zz B 8 ≤ 8000) : ∀ (F2 F1 : List Own) (o4 o5 : Option D), SzF m w0 B (F1 ++ F2) → F1.length + F2.length ≤ 7 →
    ∃ o4' o5', loopL (mgTup 2 (mgCons (mgName 4) (mgCons (mgName 5) mgNil))) m_law_rank_b1 (F2.map ownD) (Erk R w none (pl (restL F1 row)) o4 o5 o6 o7) = .nx (Erk R w none (pl (restL (F1 ++ F2) row)) o4' o5' o6 o7)
  | [], F1, o4, o5, _, _ => ⟨o4, o5, by rw [List.append_nil]; rfl⟩
  | e :: F2, F1, o4, o5, h, hl => by
    have h1 : SzF m w0 B (F1 ++ [e] ++ F2) := by rw [List.append_assoc]; exact h
    have hl' : F1.length + (F2.length + 1) ≤ 7 := hl
    obtain ⟨o4', o5', ih⟩ := rfor_go hm hr R w o6 o7 hw hz F2 (F1 ++ [e]) (some (.int (e.1 : Nat))) (some (pl e.2)) h1 (by rw [List.length_append]; simp; omega)
    refine ⟨o4', o5', ?_⟩
    have he := h F1.length e (by rw [List.getElem?_append_right (by omega), Nat.sub_self]; rfl)
    have hF1 : SzF m w0 B F1 := fun j x hx => h j x (by rw [List.getElem?_append_left (List.getElem?_eq_some_iff.mp hx).1]; exact hx)
    have hr1 := rest_sz hr F1.length F1 rfl hF1
    have er : restL (F1 ++ [e]) row = elimS (restL F1 row) e := by unfold restL; rw [List.foldl_append]; rfl
    have k1 := zz_mono B (show F1.length + 1 ≤ 8 by omega)
    rw [zz_s] at k1
    have b := rb1_go (row := restL F1 row) hm (by omega) hr1 he.2 (by omega) R w o6 o7
    rw [List.map_cons, loop_step (ρ1 := Erk R w none (pl (restL F1 row)) (some (.int (e.1 : Nat))) (some (pl e.2)) o6 o7) rfl b, ← er, ih]
    rw [List.append_assoc]
    rfl
theorem rb3_go {m w B : Nat} {row : List Int} {F : List Own} (hm : m ≤ 1000) (hw : w ≤ m) (hr : szR m B row) (hF : SzF m w B F) (hl : F.length ≤ 6) (hz : zz B 8 ≤ 8000) (R : D) (o4 o5 o6 o7 : Option D) : ∃ (row' : D) (o4' o5' o7' : Option D), m_law_rank_b3 (Erk R w (some (.lst (F.map ownD))) (pl row) o4 o5 o6 o7) = .nx (Erk R w (some (.lst ((stepL w F row).map ownD))) row' o4' o5' o6 o7') := by
  have sz := szv
  obtain ⟨o4', o5', e1⟩ := rfor_go hm hr R (w : Int) o6 o7 hw hz F [] o4 o5 hF (by simp; omega)
  have hr1 := rest_sz hr F.length F rfl hF
  have e1' : msForO 2 (mgTup 2 (mgCons (mgName 4) (mgCons (mgName 5) mgNil))) m_law_rank_b1 (Erk R w (some (.lst (F.map ownD))) (pl row) o4 o5 o6 o7) = .nx (Erk R w (some (.lst (F.map ownD))) (pl (restL F row)) o4' o5' o6 o7) := by
    have g0 : getO (Erk R w (some (.lst (F.map ownD))) (pl row) o4 o5 o6 o7) 2 = some (.lst (F.map ownD)) := rfl
    have e1 : loopL (mgTup 2 (mgCons (mgName 4) (mgCons (mgName 5) mgNil))) m_law_rank_b1 (F.map ownD) ((Erk R w (some (.lst (F.map ownD))) (pl row) o4 o5 o6 o7).set 2 none) = .nx (Erk R w none (pl (restL F row)) o4' o5' o6 o7) := e1
    unfold msForO
    rw [g0]
    show backO 2 (F.map ownD) (loopL _ _ _ _) = _
    rw [e1]
    rfl
  generalize hr2 : restL F row = r at *
  have rg := range1 (n := w) (by omega)
  have lc := mLc_filt (as := List.range w) (enc := fun i => D.int (i : Nat)) (vs := [4]) (g := mgName 4) (mi := mItN gRange1 (mCons (mVar 1) mNil)) (mt := m_law_rank_t2) (me := mVar 4) (p := fun j => decide (r.getD j 0 ≠ 0)) (ρ0 := Erk R w (some (.lst (F.map ownD))) (pl r) o4' o5' o6 o7) (ρ := Erk R w (some (.lst (F.map ownD))) (pl r) o4' o5' o6 o7)
    (st := fun j => Erk R w (some (.lst (F.map ownD))) (pl r) (some (.int (j : Nat))) o5' o6 o7) (f := fun j => .int (j : Nat)) (by
      generalize (List.range w).map (fun i => D.int (i : Nat)) = RL at *
      generalize pl r = P at *
      generalize D.lst (F.map ownD) = L at *
      simp -implicitDefEqProofs [rg]) (by rw [List.length_range]; omega) (fun _ => rfl) (fun _ _ => rfl) (fun j hj => by
      have hj := List.mem_range.mp hj
      have i0 := ix_row (row := r) (j := j) (by rw [hr1.1]; omega)
      have bz : (!decide (r.getD j 0 = 0)) = decide (r.getD j 0 ≠ 0) := by by_cases c : r.getD j 0 = 0 <;> simp [c]
      rw [← bz]
      generalize r.getD j 0 = a at *
      generalize pl r = P at *
      generalize D.lst (F.map ownD) = L at *
      generalize (j : Int) = ji at *
      simp -implicitDefEqProofs [m_law_rank_t2, i0]) (fun _ _ _ => rfl)
  have ef : ((List.range w).filter fun j => decide (r.getD j 0 ≠ 0)).map (fun j : Nat => D.int (j : Nat)) = (nzs w r).map fun j => D.int (j : Nat) := rfl
  rw [ef] at lc
  have e2 : (msAsg (mLc [4] (mItN gRange1 (mCons (mVar 1) mNil)) (mgName 4) m_law_rank_t2 (mVar 4)) (mgName 7)) (Erk R w (some (.lst (F.map ownD))) (pl r) o4' o5' o6 o7) = .nx (Erk R w (some (.lst (F.map ownD))) (pl r) o4' o5' o6 (some (.lst ((nzs w r).map fun j => D.int (j : Nat))))) := by
    generalize (nzs w r).map (fun j => D.int (j : Nat)) = N at *
    generalize mLc [4] (mItN gRange1 (mCons (mVar 1) mNil)) (mgName 4) m_law_rank_t2 (mVar 4) = mL at *
    generalize pl r = P at *
    generalize D.lst (F.map ownD) = L at *
    simp -implicitDefEqProofs [lc]
  refine ⟨pl r, o4', o5', some (.lst ((nzs w r).map fun j => D.int (j : Nat))), ?_⟩
  unfold m_law_rank_b3
  rw [seq_nx e1', seq_nx e2]
  unfold stepL firstNZ
  rw [hr2]
  cases c : nzs w r with
  | nil => rfl
  | cons p ps =>
    have ha : (mCons (mN gTup (mCons (m2 gIx (mVar 7) (mK (.int 0))) (mCons (mVar 3) mNil))) mNil) (Erk R w (some (.lst (F.map ownD))) (pl r) o4' o5' o6 (some (.lst ((p :: ps).map fun j => D.int (j : Nat))))) = .ok [ownD (p, r)] (Erk R w (some (.lst (F.map ownD))) (pl r) o4' o5' o6 (some (.lst ((p :: ps).map fun j => D.int (j : Nat))))) := by
      have i0 : gIx (.lst ((p :: ps).map fun j => D.int (j : Nat))) (.int 0) = some (.int (p : Nat)) := by
        show L2.atI _ _ = _
        have := atI_nat' ((p :: ps).map fun j => D.int (j : Nat)) 0 (by simp)
        exact this
      unfold ownD
      generalize D.lst ((p :: ps).map fun j => D.int (j : Nat)) = N at *
      generalize D.lst (F.map _) = L at *
      generalize pl r = P at *
      simp -implicitDefEqProofs [i0, show 2 ≤ sizeLine by omega]
    have ga : gAppend (F.map ownD) [ownD (p, r)] = some (.non, (F ++ [(p, r)]).map ownD) := by
      show (if (F.map ownD).length < sizeLine then some (D.non, F.map ownD ++ [ownD (p, r)]) else none) = _
      rw [if_pos (by rw [List.length_map]; omega), List.map_append]
      rfl
    have tr : mTru (mVar 7) (Erk R w (some (.lst (F.map ownD))) (pl r) o4' o5' o6 (some (.lst ((p :: ps).map fun j => D.int (j : Nat))))) = .ok true (Erk R w (some (.lst (F.map ownD))) (pl r) o4' o5' o6 (some (.lst ((p :: ps).map fun j => D.int (j : Nat))))) := rfl
    rw [msIf_ap, tr]
    show obind (mOM gAppend 2 _ _) _ = _
    rw [mOM_go rfl ha rfl ga]
    rfl
theorem v_lrank {m w B : Nat} {rows : List (List Int)} {d : D} (hd : Sq d (rows.map pl)) (hm : m ≤ 1000) (hw : w ≤ m) (hr : ∀ r ∈ rows, szR m B r) (hl : rows.length ≤ 7) (hz : zz B 8 ≤ 8000) (ρ : En) : (F_law_rank [d, .int (w : Nat)]).R ρ = .ok (.int (rankL w rows : Nat)) ρ := by
  have sz := szv
  have lp : ∀ (rs : List (List Int)) (F : List Own) (o3 o4 o5 o6 o7 : Option D), (∀ r ∈ rs, szR m B r) → SzF m w B F → F.length + rs.length ≤ 7 →
      ∃ o3' o4' o5' o6' o7', loopL (mgName 3) m_law_rank_b3 (rs.map pl) [some d, some (.int (w : Nat)), some (.lst (F.map ownD)), o3, o4, o5, o6, o7] = .nx [some d, some (.int (w : Nat)), some (.lst ((rs.foldl (stepL w) F).map ownD)), o3', o4', o5', o6', o7'] := by
    intro rs
    induction rs with
    | nil => exact fun F o3 o4 o5 o6 o7 _ _ _ => ⟨o3, o4, o5, o6, o7, rfl⟩
    | cons r rs ih =>
      intro F o3 o4 o5 o6 o7 h hF hl
      have hl' : F.length + (rs.length + 1) ≤ 7 := hl
      obtain ⟨s1, s2⟩ := step_sz hF (h r List.mem_cons_self)
      obtain ⟨r', p4, p5, p7, e⟩ := rb3_go hm hw (h r List.mem_cons_self) hF (by omega) hz d o4 o5 o6 o7
      obtain ⟨q3, q4, q5, q6, q7, e2⟩ := ih (stepL w F r) (some r') p4 p5 o6 p7 (fun x hx => h x (List.mem_cons_of_mem _ hx)) s1 (by omega)
      refine ⟨q3, q4, q5, q6, q7, ?_⟩
      rw [List.map_cons, loop_step (ρ1 := Erk d w (some (.lst (F.map ownD))) (pl r) o4 o5 o6 o7) rfl e]
      exact e2
  obtain ⟨o3, o4, o5, o6, o7, e⟩ := lp rows [] none none none none none hr SzF.nil (by simp; omega)
  have hit := hd.iter
  have go : m_law_rank [some d, some (.int (w : Nat)), none, none, none, none, none, none] = .rt (.int (rankL w rows : Nat)) [some d, some (.int (w : Nat)), some (.lst ((rankS w rows).map ownD)), o3, o4, o5, o6, o7] := by
    have e0 : (msOwn 2 (mN gLst mNil)) [some d, some (.int (w : Nat)), none, none, none, none, none, none] = .nx [some d, some (.int (w : Nat)), some (.lst ([] : List D)), none, none, none, none, none] := by
      simp -implicitDefEqProofs
    have e1 : (msFor (mIter (mVar 0)) (mgName 3) m_law_rank_b3) [some d, some (.int (w : Nat)), some (.lst ([] : List D)), none, none, none, none, none] = .nx [some d, some (.int (w : Nat)), some (.lst ((rankS w rows).map ownD)), o3, o4, o5, o6, o7] := by
      have e' : loopL (mgName 3) m_law_rank_b3 (rows.map pl) [some d, some (.int (w : Nat)), some (.lst ([] : List D)), none, none, none, none, none] = .nx [some d, some (.int (w : Nat)), some (.lst ((rankS w rows).map ownD)), o3, o4, o5, o6, o7] := e
      generalize (rankS w rows).map ownD = X at *
      generalize rows.map pl = L at *
      generalize m_law_rank_b3 = B at *
      simp -implicitDefEqProofs [hit, e']
    have gl : gLen [.lst ((rankS w rows).map ownD)] = some (.int (rankL w rows : Nat)) := by
      show some (D.int (((rankS w rows).map ownD).length : Nat)) = _
      rw [List.length_map]
      rfl
    unfold m_law_rank
    rw [msForget_ap]
    show msSeq _ _ [some d, some (.int (w : Nat)), none, none, none, none, none, none] = _
    rw [seq_nx e0, seq_nx e1]
    generalize (rankS w rows).map ownD = X at *
    generalize (rankL w rows : Int) = K at *
    simp -implicitDefEqProofs [mNO, getO_ap, gl]
  have := runM_rt (n := 8) (np := 2) (dd := []) (fr := false) (m := m_law_rank) (ds := [d, .int (w : Nat)]) rfl go
  unfold F_law_rank
  rw [this, Ret.R_rt]
end Q
namespace Q
open DL PySem PySem.Spec PyProof.Rows
def SpD (n : Nat) (S : List Own) : D := .obj "Span" [("n", .int (n : Nat)), ("q", .int 0), ("rows", .lst (S.map ownD))]
section
variable {n : Nat} {S : List Own}
theorem sp_n : gFld (isC ["Span"]) "n" (SpD n S) = some (.int (n : Nat)) := rfl
theorem sp_q : gFld (isC ["Span"]) "q" (SpD n S) = some (.int 0) := rfl
theorem sp_rows : gFld (isC ["Span"]) "rows" (SpD n S) = some (.lst (S.map ownD)) := rfl
theorem meth_sp {tab : Str → Option FN} {mn : Str} {o : ME} {F : FN} {d d' : D} {ds : List D} {args : MA} {ρ ρ1 ρ2 : En} (ho : o ρ = .ok (SpD n S) ρ1) (ha : args ρ1 = .ok ds ρ2) (ht : tab "Span" = some F) (hm : ∀ a b c : D, ([("n", a), ("q", b), ("rows", c)] : List (Str × D)).lookup mn = none) (hF : F (SpD n S :: ds) = .rt d d') : mMeth tab mn o args ρ = .ok d ρ2 := by
  have hl := hm (.int (n : Nat)) (.int 0) (.lst (S.map ownD))
  unfold mMeth
  rw [ho, bind_ok]
  unfold SpD at hF ⊢
  simp only [ht, hl, Option.isNone_none, if_true, ha, bind_ok, hF]
theorem v_spInit : FSpan_init [.obj "Span" [], .int (n : Nat), .int 0] = .rt .non (SpD n []) := by
  simp -implicitDefEqProofs [FSpan_init, runM, mSpan_init, pad, io0, SpD]
  rfl
abbrev Es (P Q2 : D) (o2 o3 o4 : Option D) : En := [some P, some Q2, o2, o3, o4]
theorem sb1_go {k : Nat} {row : List Int} {e : Own} (hn : n + 1 ≤ 1000) (hp : e.1 < n + 1) (hr : szR (n + 1) k row) (he : szR (n + 1) k e.2) (hk : k + k + 1 ≤ 8000) (o4 : Option D) : ∃ o4', mSpan_rest_b1 (Es (SpD n S) (pl row) (some (.int (e.1 : Nat))) (some (pl e.2)) o4) = .nx (Es (SpD n S) (pl (elimS row e)) (some (.int (e.1 : Nat))) (some (pl e.2)) o4') := by
  have sz := szv
  have i0 := ix_row (row := row) (j := e.1) (by rw [hr.1]; exact hp)
  have i1 := ix_row (row := e.2) (j := e.1) (by rw [he.1]; exact hp)
  have f1 := sp_n (n := n) (S := S)
  have f2 := sp_q (n := n) (S := S)
  unfold elimS
  by_cases c : row.getD e.1 0 = 0
  · refine ⟨o4, ?_⟩
    rw [if_neg (by simpa using c)]
    rw [c] at i0
    generalize pl row = P at *
    generalize pl e.2 = P2 at *
    generalize SpD n S = SP at *
    generalize (e.1 : Int) = p at *
    simp -implicitDefEqProofs [mSpan_rest_b1, i0]
  · refine ⟨o4, ?_⟩
    rw [if_pos c]
    have rg := range1 (n := n + 1) (by omega)
    rw [show ((n + 1 : Nat) : Int) = (n : Int) + 1 by omega] at rg
    have lc := mLc_map (as := List.range (n + 1)) (enc := fun i => D.int (i : Nat)) (vs := [4]) (g := mgName 4) (mi := mItN gRange1 (mCons (m2 gAdd (m1 (gFld (isC ["Span"]) "n") (mVar 0)) (mK (.int 1))) mNil)) (me := mSpan_rest_e0) (ρ0 := Es (SpD n S) (pl row) (some (.int (e.1 : Nat))) (some (pl e.2)) o4) (ρ := Es (SpD n S) (pl row) (some (.int (e.1 : Nat))) (some (pl e.2)) o4)
      (st := fun j => Es (SpD n S) (pl row) (some (.int (e.1 : Nat))) (some (pl e.2)) (some (.int (j : Nat)))) (f := fun j => .int (e.2.getD e.1 0 * row.getD j 0 - row.getD e.1 0 * e.2.getD j 0)) (by
        generalize (List.range (n + 1)).map (fun i => D.int (i : Nat)) = RL at *
        generalize pl row = P at *
        generalize pl e.2 = P2 at *
        generalize SpD n S = SP at *
        generalize (n : Int) = ni at *
        simp -implicitDefEqProofs [f1, rg]) (by rw [List.length_range]; omega) (fun _ => rfl) (fun _ _ => rfl) (fun j hj => by
        have hj := List.mem_range.mp hj
        have j0 := ix_row (row := row) (j := j) (by rw [hr.1]; exact hj)
        have j1 := ix_row (row := e.2) (j := j) (by rw [he.1]; exact hj)
        have m1 := mulS (he.get e.1) (hr.get j) (show k + k ≤ 8000 by omega)
        have m2 := mulS (hr.get e.1) (he.get j) (show k + k ≤ 8000 by omega)
        generalize e.2.getD e.1 0 = a at *
        generalize row.getD j 0 = b at *
        generalize row.getD e.1 0 = c0 at *
        generalize e.2.getD j 0 = d at *
        generalize pl row = P at *
        generalize pl e.2 = P2 at *
        generalize SpD n S = SP at *
        generalize (e.1 : Int) = p at *
        generalize (j : Int) = ji at *
        simp -implicitDefEqProofs [mSpan_rest_e0, i0, i1, j0, j1, m1, m2])
    have em : (List.range (n + 1)).map (fun j => D.int (e.2.getD e.1 0 * row.getD j 0 - row.getD e.1 0 * e.2.getD j 0)) = (crossI row e).map D.int := by
      unfold crossI
      rw [List.map_map, hr.1]
      rfl
    rw [em] at lc
    have cs := cross_sz hr he
    have vs := fun ρ => v_short (Sq.tup ((crossI row e).map D.int)) (by rw [cs.1]; omega) (fun a ha => s8 (cs.2 a ha) hk) ρ
    have gt : gTuple [.lst ((crossI row e).map D.int)] = some (.tup ((crossI row e).map D.int)) := rfl
    generalize pl (shortI (crossI row e)) = X at *
    generalize (crossI row e).map D.int = M at *
    generalize row.getD e.1 0 = c0 at *
    generalize e.2.getD e.1 0 = a0 at *
    generalize pl row = P at *
    generalize pl e.2 = P2 at *
    generalize SpD n S = SP at *
    generalize (e.1 : Int) = p at *
    generalize D.tup M = TM at *
    unfold mSpan_rest_b1
    generalize mLc [4] (mItN gRange1 (mCons (m2 gAdd (m1 (gFld (isC ["Span"]) "n") (mVar 0)) (mK (.int 1))) mNil)) (mgName 4) mYes mSpan_rest_e0 = mL at *
    simp -implicitDefEqProofs [i0, c, lc, gt, mCall_R, vs, f2]
def restP (S : List Own) (row : List Int) : List Int := restL S (shortI row)
theorem szR.short {m k : Nat} {r : List Int} (h : szR m k r) : szR m k (shortI r) := ⟨by rw [shortI_len]; exact h.1, shortI_sz h.2⟩
theorem v_rest {B : Nat} {row : List Int} (hn : n + 1 ≤ 1000) (hr : szR (n + 1) B row) (hS : SzF (n + 1) n B S) (hl : S.length ≤ 6) (hz : zz B 8 ≤ 8000) : ∃ o, FSpan_rest [SpD n S, pl row] = .rt (pl (restP S row)) o := by
  have B8 : B ≤ 8000 := by have := zz_mono B (show 0 ≤ 8 by omega); rw [zz_0] at this; omega
  have vs := fun ρ => v_short (Sq.tup (row.map D.int)) (by rw [hr.1]; omega) (fun a ha => s8 (hr.2 a ha) B8) ρ
  have ep : D.tup (row.map D.int) = pl row := rfl
  rw [ep] at vs
  have f2 := sp_q (n := n) (S := S)
  have f3 := sp_rows (n := n) (S := S)
  have lp : ∀ (F2 F1 : List Own) (o2 o3 o4 : Option D), SzF (n + 1) n B (F1 ++ F2) → F1.length + F2.length ≤ 7 →
      ∃ o2' o3' o4', loopL (mgTup 2 (mgCons (mgName 2) (mgCons (mgName 3) mgNil))) mSpan_rest_b1 (F2.map ownD) (Es (SpD n S) (pl (restL F1 (shortI row))) o2 o3 o4) = .nx (Es (SpD n S) (pl (restL (F1 ++ F2) (shortI row))) o2' o3' o4') := by
    intro F2
    induction F2 with
    | nil => exact fun F1 o2 o3 o4 _ _ => ⟨o2, o3, o4, by rw [List.append_nil]; rfl⟩
    | cons e F2 ih =>
      intro F1 o2 o3 o4 h hl
      have h1 : SzF (n + 1) n B (F1 ++ [e] ++ F2) := by rw [List.append_assoc]; exact h
      have hl' : F1.length + (F2.length + 1) ≤ 7 := hl
      have he := h F1.length e (by rw [List.getElem?_append_right (by omega), Nat.sub_self]; rfl)
      have hF1 : SzF (n + 1) n B F1 := fun j x hx => h j x (by rw [List.getElem?_append_left (List.getElem?_eq_some_iff.mp hx).1]; exact hx)
      have hr1 := rest_sz hr.short F1.length F1 rfl hF1
      have er : restL (F1 ++ [e]) (shortI row) = elimS (restL F1 (shortI row)) e := by unfold restL; rw [List.foldl_append]; rfl
      have k1 := zz_mono B (show F1.length + 1 ≤ 8 by omega)
      rw [zz_s] at k1
      obtain ⟨p4, b⟩ := sb1_go (S := S) hn (by omega) hr1 he.2 (by omega) o4
      obtain ⟨q2, q3, q4, e2⟩ := ih (F1 ++ [e]) (some (.int (e.1 : Nat))) (some (pl e.2)) p4 h1 (by rw [List.length_append]; simp; omega)
      refine ⟨q2, q3, q4, ?_⟩
      rw [List.map_cons, loop_step (ρ1 := Es (SpD n S) (pl (restL F1 (shortI row))) (some (.int (e.1 : Nat))) (some (pl e.2)) o4) rfl b, ← er, e2, List.append_assoc]
      rfl
  obtain ⟨o2, o3, o4, e⟩ := lp S [] none none none hS (by simp; omega)
  refine ⟨_, runM_rt (n := 5) (np := 2) (dd := []) (fr := false) (m := mSpan_rest) (ds := [SpD n S, pl row]) (ρ := Es (SpD n S) (pl (restP S row)) o2 o3 o4) rfl ?_⟩
  have e' : loopL (mgTup 2 (mgCons (mgName 2) (mgCons (mgName 3) mgNil))) mSpan_rest_b1 (S.map ownD) (Es (SpD n S) (pl (shortI row)) none none none) = .nx (Es (SpD n S) (pl (restP S row)) o2 o3 o4) := e
  show mSpan_rest (Es (SpD n S) (pl row) none none none) = _
  have gi : gIter (.lst (S.map ownD)) = some (S.map ownD) := rfl
  clear lp
  generalize pl (restP S row) = X at *
  generalize pl (shortI row) = Y at *
  generalize pl row = P at *
  generalize SpD n S = SP at *
  generalize D.lst (S.map ownD) = L at *
  generalize S.map ownD = LL at *
  unfold mSpan_rest
  generalize mSpan_rest_b1 = B1 at *
  simp -implicitDefEqProofs [mCall_R, vs, f2, f3, gi, e']
def oN : Option Nat → D
  | none => .non
  | some p => .int (p : Nat)
theorem v_placeOf {r : List Int} (hn : n ≤ 1000) (hr : r.length = n + 1) : ∃ o, FSpan_place_of [SpD n S, pl r] = .rt (oN (firstNZ n r)) o := by
  have sz := szv
  have f1 := sp_n (n := n) (S := S)
  have lp : ∀ (js : List Nat) (o2 : Option D), (∀ j ∈ js, j < n) → ∃ o2', loopL (mgName 2) mSpan_place_of_b0 (js.map fun i => D.int (i : Nat)) [some (SpD n S), some (pl r), o2] = (match (js.filter fun j => decide (r.getD j 0 ≠ 0)).head? with
      | some p => .rt (.int (p : Nat)) [some (SpD n S), some (pl r), o2']
      | none => .nx [some (SpD n S), some (pl r), o2']) := by
    intro js
    induction js with
    | nil => exact fun o2 _ => ⟨o2, rfl⟩
    | cons j js ih =>
      intro o2 h
      have i0 := ix_row (row := r) (j := j) (by have := h j List.mem_cons_self; omega)
      by_cases c : r.getD j 0 = 0
      · obtain ⟨o2', e⟩ := ih (some (.int (j : Nat))) fun x hx => h x (List.mem_cons_of_mem _ hx)
        refine ⟨o2', ?_⟩
        rw [List.map_cons, loop_step (ρ1 := [some (SpD n S), some (pl r), some (.int (j : Nat))]) (ρ2 := [some (SpD n S), some (pl r), some (.int (j : Nat))]) rfl (by
          rw [c] at i0
          generalize pl r = P at *
          generalize SpD n S = SP at *
          generalize (j : Int) = ji at *
          simp -implicitDefEqProofs [mSpan_place_of_b0, i0]), e, List.filter_cons_of_neg (by simpa using c)]
      · refine ⟨some (.int (j : Nat)), ?_⟩
        rw [List.filter_cons_of_pos (by simpa using c)]
        have b : mSpan_place_of_b0 [some (SpD n S), some (pl r), some (.int (j : Nat))] = .rt (.int (j : Nat)) [some (SpD n S), some (pl r), some (.int (j : Nat))] := by
          generalize r.getD j 0 = a at *
          generalize pl r = P at *
          generalize SpD n S = SP at *
          generalize (j : Int) = ji at *
          simp -implicitDefEqProofs [mSpan_place_of_b0, i0, c]
        have g : mgName 2 (.int (j : Nat)) [some (SpD n S), some (pl r), o2] = .ok () [some (SpD n S), some (pl r), some (.int (j : Nat))] := rfl
        rw [List.map_cons]
        simp only [loopL, g, b, List.head?_cons]
  obtain ⟨o2, e⟩ := lp (List.range n) none fun j hj => List.mem_range.mp hj
  have rg := range1 (n := n) (by omega)
  have ef : ((List.range n).filter fun j => decide (r.getD j 0 ≠ 0)).head? = firstNZ n r := rfl
  rw [ef] at e
  have h : mSpan_place_of [some (SpD n S), some (pl r), none] = .rt (oN (firstNZ n r)) [some (SpD n S), some (pl r), o2] := by
    have e1 : msFor (mItN gRange1 (mCons (m1 (gFld (isC ["Span"]) "n") (mVar 0)) mNil)) (mgName 2) mSpan_place_of_b0 [some (SpD n S), some (pl r), none] = (match firstNZ n r with
        | some p => .rt (.int (p : Nat)) [some (SpD n S), some (pl r), o2]
        | none => .nx [some (SpD n S), some (pl r), o2]) := by
      rw [← e]
      clear e lp
      generalize (List.range n).map (fun i => D.int (i : Nat)) = RL at *
      generalize pl r = P at *
      generalize SpD n S = SP at *
      generalize (n : Int) = ni at *
      generalize mSpan_place_of_b0 = B at *
      simp -implicitDefEqProofs [f1, rg]
    unfold mSpan_place_of
    cases c : firstNZ n r with
    | none => rw [c] at e1; rw [seq_nx e1]; rfl
    | some p => rw [c] at e1; rw [seq_rt e1]; rfl
  exact ⟨_, runM_rt (n := 3) (np := 2) (dd := []) (fr := false) (m := mSpan_place_of) (ds := [SpD n S, pl r]) rfl h⟩
theorem v_with {r : List Int} (p : Nat) (hl : S.length ≤ 1000) : ∃ o, FSpan_with_rest [SpD n S, .int (p : Nat), pl r] = .rt (SpD n (S ++ [(p, r)])) o := by
  have sz := szv
  have f1 := sp_n (n := n) (S := S)
  have f2 := sp_q (n := n) (S := S)
  have f3 := sp_rows (n := n) (S := S)
  have vi := v_spInit (n := n)
  have mk : mMake "Span" FSpan_init (mCons (m1 (gFld (isC ["Span"]) "n") (mVar 0)) (mCons (m1 (gFld (isC ["Span"]) "q") (mVar 0)) mNil)) [some (SpD n S), some (.int (p : Nat)), some (pl r), none] = .ok (SpD n []) [some (SpD n S), some (.int (p : Nat)), some (pl r), none] := by
    have ha : (mCons (m1 (gFld (isC ["Span"]) "n") (mVar 0)) (mCons (m1 (gFld (isC ["Span"]) "q") (mVar 0)) mNil)) [some (SpD n S), some (.int (p : Nat)), some (pl r), none] = .ok [.int (n : Nat), .int 0] [some (SpD n S), some (.int (p : Nat)), some (pl r), none] := by
      generalize pl r = P at *
      generalize SpD n S = SP at *
      simp -implicitDefEqProofs [f1, f2]
    unfold mMake
    rw [ha, bind_ok, vi]
  have g : gAdd (.lst (S.map ownD)) (.lst [ownD (p, r)]) = some (.lst ((S ++ [(p, r)]).map ownD)) := by
    show (if (S.map ownD).length + 1 ≤ sizeLine then some (D.lst (S.map ownD ++ [ownD (p, r)])) else none) = _
    rw [if_pos (by rw [List.length_map]; omega), List.map_append]
    rfl
  have eo : ownD (p, r) = .tup [.int (p : Nat), pl r] := rfl
  rw [eo] at g
  have e0 : (msOwn 3 (mMake "Span" FSpan_init (mCons (m1 (gFld (isC ["Span"]) "n") (mVar 0)) (mCons (m1 (gFld (isC ["Span"]) "q") (mVar 0)) mNil)))) [some (SpD n S), some (.int (p : Nat)), some (pl r), none] = .nx [some (SpD n S), some (.int (p : Nat)), some (pl r), some (SpD n [])] := by
    generalize mMake "Span" FSpan_init (mCons (m1 (gFld (isC ["Span"]) "n") (mVar 0)) (mCons (m1 (gFld (isC ["Span"]) "q") (mVar 0)) mNil)) = M at *
    generalize pl r = P at *
    generalize SpD n S = SP at *
    generalize SpD n [] = SP2 at *
    simp -implicitDefEqProofs [mk]
  have ev : (m2 gAdd (m1 (gFld (isC ["Span"]) "rows") (mVar 0)) (mN gLst (mCons (mN gTup (mCons (mVar 1) (mCons (mVar 2) mNil))) mNil))) [some (SpD n S), some (.int (p : Nat)), some (pl r), some (SpD n [])] = .ok (.lst ((S ++ [(p, r)]).map ownD)) [some (SpD n S), some (.int (p : Nat)), some (pl r), some (SpD n [])] := by
    generalize D.lst ((S ++ [(p, r)]).map ownD) = X at *
    generalize D.lst (S.map ownD) = L at *
    generalize pl r = P at *
    generalize SpD n S = SP at *
    generalize SpD n [] = SP2 at *
    simp -implicitDefEqProofs [f3, g, show 2 ≤ sizeLine by omega, show 1 ≤ sizeLine by omega]
  have e1 : (msFld (isC ["Span"]) "rows" 3 (m2 gAdd (m1 (gFld (isC ["Span"]) "rows") (mVar 0)) (mN gLst (mCons (mN gTup (mCons (mVar 1) (mCons (mVar 2) mNil))) mNil)))) [some (SpD n S), some (.int (p : Nat)), some (pl r), some (SpD n [])] = .nx [some (SpD n S), some (.int (p : Nat)), some (pl r), some (SpD n (S ++ [(p, r)]))] := by
    unfold msFld
    rw [ev, obind_ok]
    rfl
  refine ⟨_, runM_rt (n := 4) (np := 3) (dd := []) (fr := false) (m := mSpan_with_rest) (ds := [SpD n S, .int (p : Nat), pl r]) (ρ := [some (SpD n S), some (.int (p : Nat)), some (pl r), some (SpD n (S ++ [(p, r)]))]) rfl ?_⟩
  unfold mSpan_with_rest
  rw [msForget_ap]
  show msSeq _ _ [some (SpD n S), some (.int (p : Nat)), some (pl r), none] = _
  rw [seq_nx e0, seq_nx e1]
  rfl
end
end Q
namespace Q
open DL PySem PySem.Spec PyProof.Rows
def spanP (n : Nat) : List Own → List (List Int) → Option (List Own)
  | S, [] => some S
  | S, row :: rows => match firstNZ n (restP S row) with
    | some p => spanP n (S ++ [(p, restP S row)]) rows
    | none => if (restP S row).getD n 0 ≠ 0 then none else spanP n S rows
def oSp (n : Nat) : Option (List Own) → D
  | none => .non
  | some S => SpD n S
section
variable {n B : Nat}
theorem restP_sz {S : List Own} {row : List Int} (hr : szR (n + 1) B row) (hS : SzF (n + 1) n B S) : szR (n + 1) (zz B S.length) (restP S row) := rest_sz hr.short S.length S rfl hS
abbrev Eo (n : Nat) (R SP : D) (o4 o5 o6 : Option D) : En := [some (.int (n : Nat)), some (.int 0), some R, some SP, o4, o5, o6]
end
end Q
namespace Q
open DL PySem PySem.Spec PyProof.Rows
section
variable {n : Nat} {ps : List (List Int)} {as : List Int} {ks : List Nat}
theorem lenX_po (h : ps.length ≤ 1000) : gLenX (tb [("Planes", FPlanes_len)]) (PO n ps) = some (.int (ps.length : Nat)) := by
  have v := v_plen n ps
  unfold PO at v ⊢
  unfold gLenX
  show ((tb [("Planes", FPlanes_len)]) "Planes").bind _ = _
  have : (tb [("Planes", FPlanes_len)]) "Planes" = some FPlanes_len := rfl
  rw [this, Option.bind_some, v]
  unfold lenR
  simp
  omega
theorem v_ascends (hl : as.length ≤ 100) (ρ : En) : (Fascends [ixA as]).R ρ = .ok (.bl (ascBA as)) ρ := by
  have sz := szv
  have gl : gLen [ixA as] = some (.int (as.length : Nat)) := by simp [gLen]
  have rg := range2 (a := 1) (b := as.length) (by omega) (by omega)
  rw [List.map_map] at rg
  have lc := mLc_map (as := List.range (as.length - 1)) (enc := (fun i : Nat => D.int (i : Nat)) ∘ fun i => 1 + i) (vs := [1]) (g := mgName 1) (mi := mItN gRange2 (mCons (mK (.int 1)) (mCons (mN gLen (mCons (mVar 0) mNil)) mNil))) (me := mascends_e0) (ρ0 := [some (ixA as), none]) (ρ := [some (ixA as), none])
    (st := fun t => [some (ixA as), some (.int ((1 + t : Nat) : Int))]) (f := fun t => D.bl (decide (as.getD t 0 < as.getD (t + 1) 0)))
    (by
      generalize (List.range (as.length - 1)).map ((fun i : Nat => D.int (i : Nat)) ∘ fun i => 1 + i) = RL at *
      generalize ixA as = A at *
      have rg : gRange2 [.int 1, .int (as.length : Nat)] = some RL := rg
      simp -implicitDefEqProofs [gl, rg]) (by rw [List.length_range]; omega) (fun _ => rfl) (fun _ _ => rfl) (fun t ht => by
      have ht := List.mem_range.mp ht
      have i1 := atI_intA (as := as) (t := t) (by omega)
      have i2 := atI_intA (as := as) (t := t + 1) (by omega)
      have c2 : ((1 + t : Nat) : Int) = ((t + 1 : Nat) : Int) := by omega
      have c3 : ((t + 1 : Nat) : Int) - 1 = (t : Int) := by omega
      rw [c2]
      generalize as.getD t 0 = x at *
      generalize as.getD (t + 1) 0 = y at *
      generalize ixA as = A at *
      generalize ((t + 1 : Nat) : Int) = z at *
      simp -implicitDefEqProofs [mascends_e0, i1, i2, c3])
  have ga := gAll_map (fun t => decide (as.getD t 0 < as.getD (t + 1) 0)) (List.range (as.length - 1))
  have eb : (List.range (as.length - 1)).all (fun t => decide (as.getD t 0 < as.getD (t + 1) 0)) = ascBA as := rfl
  rw [eb] at ga
  have e : mascends [some (ixA as), none] = .rt (.bl (ascBA as)) [some (ixA as), none] := by
    generalize D.lst ((List.range (as.length - 1)).map fun t => D.bl (decide (as.getD t 0 < as.getD (t + 1) 0))) = AL at *
    generalize ixA as = A at *
    unfold mascends
    generalize mLc [1] (mItN gRange2 (mCons (mK (.int 1)) (mCons (mN gLen (mCons (mVar 0) mNil)) mNil))) (mgName 1) mYes mascends_e0 = mL at *
    simp -implicitDefEqProofs [lc, ga]
  have := runM_rt (n := 2) (np := 1) (dd := []) (fr := false) (m := mascends) (ds := [ixA as]) rfl e
  unfold Fascends
  rw [this, Ret.R_rt]
def pickK (ps : List (List Int)) (ks : List Nat) : List (List Int) := ks.map fun k => ps.getD k []
structure Pk (n : Nat) (ps : List (List Int)) : Prop where
  len : ps.length ≤ 6
  n3 : n ≤ 3
  row : ∀ p ∈ ps, szR (n + 1) 4 p
structure Kk (ps : List (List Int)) (ks : List Nat) : Prop where
  lt : ∀ k ∈ ks, k < ps.length
  len : ks.length ≤ 6
theorem zz4 : zz 4 8 ≤ 8000 := by decide
end
end Q
namespace Q
open DL PySem PySem.Spec PyProof.Rows
theorem cut_m1W (l : List D) : DL.cutD l none (some (-1)) = l.take (l.length - 1) := by
  unfold DL.cutD HT.sIx
  simp
  congr 1
  omega
theorem sl_pm1W {n : Nat} {p : List Int} (h : p.length = n + 1) : gSl (pl p) none (some (-1)) = some (pl (p.take n)) := by
  show some (D.tup (DL.cutD (p.map D.int) none (some (-1)))) = _
  rw [cut_m1W, List.length_map, h, ← List.map_take]
  rfl
def metL (n : Nat) (ps : List (List Int)) (ks : List Nat) : Bool := decide (rankL n (pickK ps ks) = rankL (n + 1) (pickK ps ks))
def tiedL (n : Nat) (ps : List (List Int)) (ks : List Nat) : Bool := metL n ps ks && decide (rankL n (pickK ps ks) < ks.length)
def zeroL (n : Nat) (r : List Int) : List Int := r.take n ++ [0]
section
variable {n : Nat} {ps : List (List Int)} {ks : List Nat}
theorem Kk.pick (hp : Pk n ps) (hk : Kk ps ks) : ∀ r ∈ pickK ps ks, szR (n + 1) 4 r := fun r hr => by
  obtain ⟨k, hk2, rfl⟩ := List.mem_map.mp hr
  exact hp.row _ (getD_memP (hk.lt k hk2))
theorem pick_len (ps : List (List Int)) (ks : List Nat) : (pickK ps ks).length = ks.length := by unfold pickK; rw [List.length_map]
theorem inRA_k (hk : ∀ k ∈ ks, k < ps.length) : inRA ps.length (ks.map fun i : Nat => (i : Int)) = true := List.all_eq_true.mpr fun a h => by
  obtain ⟨i, hm, rfl⟩ := List.mem_map.mp h
  have := hk i hm
  exact decide_eq_true ⟨by omega, by omega⟩
theorem zero_sz {r : List Int} (h : szR (n + 1) 4 r) : szR (n + 1) 4 (zeroL n r) := by
  refine ⟨by unfold zeroL; rw [List.length_append, List.length_take, h.1]; simp, fun a ha => ?_⟩
  unfold zeroL at ha
  rcases List.mem_append.mp ha with z | z
  · exact h.2 a (List.mem_of_mem_take z)
  · rw [List.mem_singleton.mp z]; decide
end
end Q
namespace Q
def Pr (m : Nat) (a b : List Int) : Prop := ∃ c d : Int, c ≠ 0 ∧ d ≠ 0 ∧ ∀ i, i < m → c * a.getD i 0 = d * b.getD i 0
theorem Pr.refl (m : Nat) (a : List Int) : Pr m a a := ⟨1, 1, by decide, by decide, fun _ _ => rfl⟩
theorem Pr.symm {m : Nat} {a b : List Int} (h : Pr m a b) : Pr m b a := let ⟨c, d, h1, h2, h3⟩ := h; ⟨d, c, h2, h1, fun i hi => (h3 i hi).symm⟩
theorem Pr.trans {m : Nat} {a b e : List Int} (h : Pr m a b) (h' : Pr m b e) : Pr m a e := by
  obtain ⟨c, d, h1, h2, h3⟩ := h
  obtain ⟨c', d', g1, g2, g3⟩ := h'
  refine ⟨c' * c, d * d', Int.mul_ne_zero g1 h1, Int.mul_ne_zero h2 g2, fun i hi => ?_⟩
  rw [Int.mul_assoc, h3 i hi, Int.mul_left_comm, g3 i hi, Int.mul_assoc]
theorem Pr.mono {m k : Nat} {a b : List Int} (h : Pr m a b) (l : k ≤ m) : Pr k a b := let ⟨c, d, h1, h2, h3⟩ := h; ⟨c, d, h1, h2, fun i hi => h3 i (by omega)⟩
theorem Pr.zero {m : Nat} {a b : List Int} (h : Pr m a b) {i : Nat} (hi : i < m) : a.getD i 0 = 0 ↔ b.getD i 0 = 0 := by
  obtain ⟨c, d, h1, h2, h3⟩ := h
  have := h3 i hi
  constructor
  · intro z
    rw [z, Int.mul_zero] at this
    rcases Int.mul_eq_zero.mp this.symm with h | h
    · exact absurd h h2
    · exact h
  · intro z
    rw [z, Int.mul_zero] at this
    rcases Int.mul_eq_zero.mp this with h | h
    · exact absurd h h1
    · exact h
theorem short_pr (m : Nat) (a : List Int) : Pr m (shortI a) a := by
  unfold shortI
  split
  · exact Pr.refl m a
  · refine ⟨(gcdL a 0 : Nat), 1, by omega, by decide, fun i _ => ?_⟩
    rw [Int.one_mul]
    by_cases c : i < a.length
    · have e1 : (a.map fun x => x.fdiv (gcdL a 0 : Nat)).getD i 0 = (a.getD i 0).fdiv (gcdL a 0 : Nat) := by simp [List.getD, c]
      rw [e1, Int.mul_comm]
      obtain ⟨q, hq⟩ := (gcdL_dvd a 0).2 _ (getD_mem c)
      rw [hq, Int.mul_fdiv_cancel_left _ (by omega), Int.mul_comm]
    · have e1 : (a.map fun x => x.fdiv (gcdL a 0 : Nat)).getD i 0 = 0 := by rw [List.getD_eq_getElem?_getD, List.getElem?_eq_none (by rw [List.length_map]; omega)]; rfl
      have e2 : a.getD i 0 = 0 := by rw [List.getD_eq_getElem?_getD, List.getElem?_eq_none (by omega)]; rfl
      rw [e1, e2, Int.mul_zero]
theorem cross_at {row : List Int} {e : Own} {i : Nat} (h : i < row.length) : (crossI row e).getD i 0 = e.2.getD e.1 0 * row.getD i 0 - row.getD e.1 0 * e.2.getD i 0 := by
  unfold crossI
  simp [List.getD, h]
theorem elim_len {row : List Int} {e : Own} : (elimS row e).length = row.length := by
  unfold elimS
  split
  · rw [shortI_len]; unfold crossI; rw [List.length_map, List.length_range]
  · rfl
theorem rest_len : ∀ (F : List Own) (row : List Int), (restL F row).length = row.length
  | [], _ => rfl
  | e :: F, row => by
    show (restL F (elimS row e)).length = _
    rw [rest_len F, elim_len]
theorem elim_pr {m : Nat} {r r' o o' : List Int} {p : Nat} (hp : p < m) (hr : Pr m r r') (ho : Pr m o o') (l1 : m ≤ r.length) (l2 : m ≤ r'.length) : Pr m (elimS r (p, o)) (elimS r' (p, o')) := by
  have z := hr.zero hp
  unfold elimS
  by_cases c : r.getD p 0 = 0
  · rw [if_neg (by simpa using c), if_neg (by simpa using z.mp c)]
    exact hr
  · rw [if_pos c, if_pos fun w => c (z.mpr w)]
    refine ((short_pr m _).trans ?_).trans (short_pr m _).symm
    obtain ⟨c1, d1, h1, h2, h3⟩ := hr
    obtain ⟨c2, d2, g1, g2, g3⟩ := ho
    refine ⟨c1 * c2, d1 * d2, Int.mul_ne_zero h1 g1, Int.mul_ne_zero h2 g2, fun i hi => ?_⟩
    rw [cross_at (by omega), cross_at (by omega)]
    show c1 * c2 * (o.getD p 0 * r.getD i 0 - r.getD p 0 * o.getD i 0) = d1 * d2 * (o'.getD p 0 * r'.getD i 0 - r'.getD p 0 * o'.getD i 0)
    have a1 := h3 i hi
    have a2 := h3 p hp
    have b1 := g3 i hi
    have b2 := g3 p hp
    have e1 : c1 * c2 * (o.getD p 0 * r.getD i 0 - r.getD p 0 * o.getD i 0) = (c2 * o.getD p 0) * (c1 * r.getD i 0) - (c1 * r.getD p 0) * (c2 * o.getD i 0) := by grind
    have e2 : d1 * d2 * (o'.getD p 0 * r'.getD i 0 - r'.getD p 0 * o'.getD i 0) = (d2 * o'.getD p 0) * (d1 * r'.getD i 0) - (d1 * r'.getD p 0) * (d2 * o'.getD i 0) := by grind
    rw [e1, e2, a1, a2, b1, b2]
inductive PrL (m : Nat) : List Own → List Own → Prop
  | nil : PrL m [] []
  | cons {p : Nat} {o o' : List Int} {F F' : List Own} : p < m → Pr m o o' → PrL m F F' → PrL m ((p, o) :: F) ((p, o') :: F')
theorem PrL.len {m : Nat} : ∀ {F F' : List Own}, PrL m F F' → F.length = F'.length
  | _, _, .nil => rfl
  | _, _, .cons _ _ h => by rw [List.length_cons, List.length_cons, h.len]
theorem PrL.snoc {m : Nat} {p : Nat} {o o' : List Int} (hp : p < m) (ho : Pr m o o') : ∀ {F F' : List Own}, PrL m F F' → PrL m (F ++ [(p, o)]) (F' ++ [(p, o')])
  | _, _, .nil => .cons hp ho .nil
  | _, _, .cons h1 h2 h3 => .cons h1 h2 (h3.snoc hp ho)
theorem rest_pr {m : Nat} : ∀ {F F' : List Own} {r r' : List Int}, PrL m F F' → Pr m r r' → m ≤ r.length → m ≤ r'.length → Pr m (restL F r) (restL F' r')
  | _, _, _, _, .nil, h, _, _ => h
  | _, _, r, r', .cons (p := p) (o := o) (o' := o') (F := F) (F' := F') h1 h2 h3, h, l1, l2 => by
    show Pr m (restL F (elimS r (p, o))) (restL F' (elimS r' (p, o')))
    exact rest_pr h3 (elim_pr h1 h h2 l1 l2) (by rw [elim_len]; exact l1) (by rw [elim_len]; exact l2)
theorem nz_pr {w m : Nat} {r r' : List Int} (h : Pr m r r') (l : w ≤ m) : firstNZ w r = firstNZ w r' := by
  have : nzs w r = nzs w r' := by
    unfold nzs
    refine List.filter_congr fun j hj => ?_
    have hj := List.mem_range.mp hj
    rw [decide_eq_decide]
    exact not_congr (h.zero (by omega))
  unfold firstNZ
  rw [this]
theorem nz_succ (n : Nat) (r : List Int) : firstNZ (n + 1) r = match firstNZ n r with
    | some p => some p
    | none => if r.getD n 0 ≠ 0 then some n else none := by
  unfold firstNZ nzs
  rw [List.range_succ, List.filter_append, List.head?_append]
  cases ((List.range n).filter fun j => decide (r.getD j 0 ≠ 0)).head? with
  | some p => rfl
  | none =>
    by_cases c : r.getD n 0 = 0
    · rw [if_neg (by simpa using c), List.filter_cons_of_neg (by simpa using c)]
      rfl
    · rw [if_pos c, List.filter_cons_of_pos (by simpa using c)]
      rfl
theorem nz_none {n : Nat} {r : List Int} (h : firstNZ n r = none) : ∀ i, i < n → r.getD i 0 = 0 := fun i hi => by
  unfold firstNZ at h
  rw [List.head?_eq_none_iff] at h
  by_cases c : r.getD i 0 = 0
  · exact c
  · have : i ∈ nzs n r := by
      unfold nzs
      rw [List.mem_filter, List.mem_range]
      exact ⟨hi, decide_eq_true c⟩
    rw [h] at this
    cases this
section
variable {n : Nat}
inductive Mix (n : Nat) : List Own → List Own → Nat → Prop
  | nil : Mix n [] [] 0
  | both {p : Nat} {o o' : List Int} {F F' : List Own} {k : Nat} : p < n → Pr n o o' → Mix n F F' k → Mix n ((p, o) :: F) ((p, o') :: F') k
  | extra {o' : List Int} {F F' : List Own} {k : Nat} : (∀ i, i < n → o'.getD i 0 = 0) → o'.getD n 0 ≠ 0 → Mix n F F' k → Mix n F ((n, o') :: F') (k + 1)
theorem Mix.len : ∀ {F F' : List Own} {k : Nat}, Mix n F F' k → F'.length = F.length + k
  | _, _, _, .nil => rfl
  | _, _, _, .both _ _ h => by rw [List.length_cons, List.length_cons, h.len]; omega
  | _, _, _, .extra _ _ h => by rw [List.length_cons, h.len]; omega
theorem Mix.snocB {p : Nat} {o o' : List Int} (hp : p < n) (ho : Pr n o o') : ∀ {F F' : List Own} {k : Nat}, Mix n F F' k → Mix n (F ++ [(p, o)]) (F' ++ [(p, o')]) k
  | _, _, _, .nil => .both hp ho .nil
  | _, _, _, .both h1 h2 h3 => .both h1 h2 (h3.snocB hp ho)
  | _, _, _, .extra h1 h2 h3 => .extra h1 h2 (h3.snocB hp ho)
theorem Mix.snocE {o' : List Int} (h1 : ∀ i, i < n → o'.getD i 0 = 0) (h2 : o'.getD n 0 ≠ 0) : ∀ {F F' : List Own} {k : Nat}, Mix n F F' k → Mix n F (F' ++ [(n, o')]) (k + 1)
  | _, _, _, .nil => .extra h1 h2 .nil
  | _, _, _, .both a b c => .both a b (c.snocE h1 h2)
  | _, _, _, .extra a b c => .extra a b (c.snocE h1 h2)
theorem PrL.mix : ∀ {F F' : List Own}, PrL n F F' → Mix n F F' 0
  | _, _, .nil => .nil
  | _, _, .cons a b c => .both a b c.mix
theorem elim_extra {r o' : List Int} (hl : r.length = n + 1) (h1 : ∀ i, i < n → o'.getD i 0 = 0) (h2 : o'.getD n 0 ≠ 0) : Pr n (elimS r (n, o')) r := by
  unfold elimS
  split
  · refine (short_pr n _).trans ⟨1, o'.getD n 0, by decide, h2, fun i hi => ?_⟩
    rw [cross_at (by omega)]
    show 1 * (o'.getD n 0 * r.getD i 0 - r.getD n 0 * o'.getD i 0) = _
    rw [h1 i hi]
    simp
  · exact Pr.refl _ _
theorem rest_mix : ∀ {F F' : List Own} {k : Nat} {r r' : List Int}, Mix n F F' k → Pr n r r' → r.length = n + 1 → r'.length = n + 1 → Pr n (restL F r) (restL F' r')
  | _, _, _, _, _, .nil, h, _, _ => h
  | _, _, _, r, r', .both (p := p) (o := o) (o' := o') (F := F) (F' := F') h1 h2 h3, h, l1, l2 => by
    show Pr n (restL F (elimS r (p, o))) (restL F' (elimS r' (p, o')))
    exact rest_mix h3 (elim_pr h1 h h2 (by omega) (by omega)) (by rw [elim_len]; exact l1) (by rw [elim_len]; exact l2)
  | _, _, _, r, r', .extra (o' := o') (F := F) (F' := F') h1 h2 h3, h, l1, l2 => by
    show Pr n (restL F r) (restL F' (elimS r' (n, o')))
    exact rest_mix h3 (h.trans (elim_extra l2 h1 h2).symm) l1 (by rw [elim_len]; exact l2)
theorem run_mix : ∀ (rows : List (List Int)) {F F' : List Own} {k : Nat}, (∀ r ∈ rows, r.length = n + 1) → Mix n F F' k → (rows.foldl (stepL n) F).length + k ≤ (rows.foldl (stepL (n + 1)) F').length
  | [], F, F', k, _, h => by show F.length + k ≤ F'.length; rw [h.len]; omega
  | r :: rows, F, F', k, hr, h => by
    have lr := hr r List.mem_cons_self
    have hp := rest_mix h (Pr.refl n r) lr lr
    have nz := nz_pr (w := n) hp (Nat.le_refl n)
    have hr2 : ∀ x ∈ rows, x.length = n + 1 := fun x hx => hr x (List.mem_cons_of_mem _ hx)
    rw [List.foldl_cons, List.foldl_cons]
    have s1 : stepL n F r = match firstNZ n (restL F r) with
      | some p => F ++ [(p, restL F r)]
      | none => F := rfl
    have s2 : stepL (n + 1) F' r = match firstNZ (n + 1) (restL F' r) with
      | some p => F' ++ [(p, restL F' r)]
      | none => F' := rfl
    rw [nz_succ, ← nz] at s2
    cases c : firstNZ n (restL F r) with
    | some p =>
      rw [c] at s1 s2
      rw [s1, s2]
      exact run_mix rows hr2 (h.snocB (nzs_lt c).1 hp)
    | none =>
      rw [c] at s1 s2
      have s1' : stepL n F r = F := s1
      rw [s1']
      by_cases q : (restL F' r).getD n 0 = 0
      · have s2' : stepL (n + 1) F' r = F' := by
          rw [s2]
          simp only [q, ne_eq, not_true_eq_false, if_false]
        rw [s2']
        exact run_mix rows hr2 h
      · have s2' : stepL (n + 1) F' r = F' ++ [(n, restL F' r)] := by
          rw [s2]
          simp only [ne_eq, q, not_false_eq_true, if_true]
        rw [s2']
        have := run_mix rows hr2 (h.snocE (nz_none (nz ▸ c)) q)
        omega
theorem run_span : ∀ (rows : List (List Int)) {S F F' : List Own}, (∀ r ∈ rows, r.length = n + 1) → PrL (n + 1) S F → PrL (n + 1) S F' → (∀ e ∈ S, e.1 < n) →
    (spanP n S rows).isSome = decide ((rows.foldl (stepL n) F).length = (rows.foldl (stepL (n + 1)) F').length)
  | [], S, F, F', _, h, h', _ => by
    show true = decide (F.length = F'.length)
    rw [decide_eq_true (h.len.symm.trans h'.len)]
  | r :: rows, S, F, F', hr, h, h', hS => by
    have lr := hr r List.mem_cons_self
    have hr2 : ∀ x ∈ rows, x.length = n + 1 := fun x hx => hr x (List.mem_cons_of_mem _ hx)
    have p1 : Pr (n + 1) (restP S r) (restL F r) := rest_pr h (short_pr _ r) (by rw [shortI_len]; omega) (by omega)
    have p2 : Pr (n + 1) (restP S r) (restL F' r) := rest_pr h' (short_pr _ r) (by rw [shortI_len]; omega) (by omega)
    have z1 := nz_pr (w := n) p1 (by omega)
    have z2 := nz_pr (w := n) p2 (by omega)
    have zn := p2.zero (show n < n + 1 by omega)
    rw [List.foldl_cons, List.foldl_cons]
    have s1 : stepL n F r = match firstNZ n (restL F r) with
      | some p => F ++ [(p, restL F r)]
      | none => F := rfl
    have s2 : stepL (n + 1) F' r = match firstNZ (n + 1) (restL F' r) with
      | some p => F' ++ [(p, restL F' r)]
      | none => F' := rfl
    have s3 : spanP n S (r :: rows) = match firstNZ n (restP S r) with
      | some p => spanP n (S ++ [(p, restP S r)]) rows
      | none => if (restP S r).getD n 0 ≠ 0 then none else spanP n S rows := rfl
    rw [← z1] at s1
    rw [nz_succ, ← z2] at s2
    rw [s3]
    cases c : firstNZ n (restP S r) with
    | some p =>
      rw [c] at s1 s2
      rw [s1, s2]
      have lt := (nzs_lt c).1
      exact run_span rows hr2 (h.snoc (by omega) p1) (h'.snoc (by omega) p2) fun e he => by
        rcases List.mem_append.mp he with y | y
        · exact hS e y
        · rw [List.mem_singleton.mp y]; exact lt
    | none =>
      rw [c] at s1 s2
      have s1' : stepL n F r = F := s1
      rw [s1']
      by_cases q : (restP S r).getD n 0 = 0
      · have s2' : stepL (n + 1) F' r = F' := by
          rw [s2]
          simp only [zn.mp q, ne_eq, not_true_eq_false, if_false]
        rw [s2']
        simp only [q, ne_eq, not_true_eq_false, if_false]
        exact run_span rows hr2 h h' hS
      · have q' : (restL F' r).getD n 0 ≠ 0 := fun w => q (zn.mpr w)
        have s2' : stepL (n + 1) F' r = F' ++ [(n, restL F' r)] := by
          rw [s2]
          simp only [ne_eq, q', not_false_eq_true, if_true]
        rw [s2']
        simp only [ne_eq, q, not_false_eq_true, if_true]
        have hF : PrL n F F' := by
          have : ∀ {S F F' : List Own}, PrL (n + 1) S F → PrL (n + 1) S F' → (∀ e ∈ S, e.1 < n) → PrL n F F' := by
            intro S F F' a
            induction a generalizing F' with
            | nil => intro b _; cases b; exact .nil
            | cons a1 a2 a3 ih =>
              intro b hs
              cases b with
              | cons b1 b2 b3 => exact .cons (hs _ List.mem_cons_self) ((a2.symm.trans b2).mono (by omega)) (ih b3 fun e he => hs e (List.mem_cons_of_mem _ he))
          exact this h h' hS
        have := run_mix rows hr2 (hF.mix.snocE (nz_none (z2 ▸ c)) q')
        rw [decide_eq_false (by omega)]
        rfl
theorem span_met {rows : List (List Int)} (hr : ∀ r ∈ rows, r.length = n + 1) : (spanP n [] rows).isSome = decide (rankL n rows = rankL (n + 1) rows) :=
  run_span rows hr .nil .nil fun e he => nomatch he
theorem zero_at {r : List Int} (hl : r.length = n + 1) : (∀ i, i < n → (zeroL n r).getD i 0 = r.getD i 0) ∧ (zeroL n r).getD n 0 = 0 ∧ (zeroL n r).length = n + 1 := by
  have lt : (r.take n).length = n := by rw [List.length_take]; omega
  refine ⟨fun i hi => ?_, ?_, ?_⟩
  · unfold zeroL
    rw [List.getD_eq_getElem?_getD, List.getElem?_append_left (by omega), List.getElem?_take, if_pos hi, ← List.getD_eq_getElem?_getD]
  · unfold zeroL
    rw [List.getD_eq_getElem?_getD, List.getElem?_append_right (by omega), lt, Nat.sub_self]
    rfl
  · unfold zeroL
    rw [List.length_append, lt]
    rfl
def endZ (n : Nat) (S : List Own) : Prop := ∀ e ∈ S, e.2.getD n 0 = 0
theorem elim_end {r : List Int} {e : Own} (hl : r.length = n + 1) (h : r.getD n 0 = 0) (he : e.2.getD n 0 = 0) : (elimS r e).getD n 0 = 0 := by
  unfold elimS
  split
  · rw [(short_pr (n + 1) _).zero (by omega), cross_at (by omega), h, he]
    simp
  · exact h
theorem rest_end : ∀ {S : List Own} {r : List Int}, r.length = n + 1 → r.getD n 0 = 0 → endZ n S → (restL S r).getD n 0 = 0
  | [], _, _, h, _ => h
  | e :: S, r, hl, h, hS => rest_end (S := S) (r := elimS r e) (by rw [elim_len]; exact hl) (elim_end hl h (hS e List.mem_cons_self)) fun x hx => hS x (List.mem_cons_of_mem _ hx)
theorem run_rank : ∀ (rows : List (List Int)) {S F : List Own}, (∀ r ∈ rows, r.length = n + 1) → PrL n S F → endZ n S → ∃ T, spanP n S (rows.map (zeroL n)) = some T ∧ T.length = (rows.foldl (stepL n) F).length
  | [], S, F, _, h, _ => ⟨S, rfl, h.len⟩
  | r :: rows, S, F, hr, h, hS => by
    have lr := hr r List.mem_cons_self
    have hr2 : ∀ x ∈ rows, x.length = n + 1 := fun x hx => hr x (List.mem_cons_of_mem _ hx)
    obtain ⟨a1, a2, a3⟩ := zero_at lr
    have zr : Pr n (shortI (zeroL n r)) r := (short_pr n _).trans ⟨1, 1, by decide, by decide, fun i hi => by rw [a1 i hi]⟩
    have p1 : Pr n (restP S (zeroL n r)) (restL F r) := rest_pr h zr (by rw [shortI_len]; omega) (by omega)
    have en : (restP S (zeroL n r)).getD n 0 = 0 := rest_end (by rw [shortI_len]; exact a3) ((short_pr (n + 1) _).zero (by omega) |>.mpr a2) hS
    have z1 := nz_pr (w := n) p1 (by omega)
    have s1 : stepL n F r = match firstNZ n (restL F r) with
      | some p => F ++ [(p, restL F r)]
      | none => F := rfl
    have s3 : spanP n S ((r :: rows).map (zeroL n)) = match firstNZ n (restP S (zeroL n r)) with
      | some p => spanP n (S ++ [(p, restP S (zeroL n r))]) (rows.map (zeroL n))
      | none => if (restP S (zeroL n r)).getD n 0 ≠ 0 then none else spanP n S (rows.map (zeroL n)) := rfl
    rw [← z1] at s1
    rw [s3, List.foldl_cons]
    cases c : firstNZ n (restP S (zeroL n r)) with
    | some p =>
      rw [c] at s1
      rw [s1]
      exact run_rank rows hr2 (h.snoc (nzs_lt c).1 p1) fun e he => by
        rcases List.mem_append.mp he with y | y
        · exact hS e y
        · rw [List.mem_singleton.mp y]; exact en
    | none =>
      rw [c] at s1
      have s1' : stepL n F r = F := s1
      rw [s1']
      simp only [en, ne_eq, not_true_eq_false, if_false]
      exact run_rank rows hr2 h hS
theorem span_rank {rows : List (List Int)} (hr : ∀ r ∈ rows, r.length = n + 1) : ∃ T, spanP n [] (rows.map (zeroL n)) = some T ∧ T.length = rankL n rows :=
  run_rank rows hr .nil fun e he => nomatch he
end
end Q
namespace Q
open DL PySem PySem.Spec PyProof.Rows
def partB (a b : List Nat) : Bool := a.all fun x => decide (x ∈ b)
theorem in_tx2 (b : List Nat) (x : Nat) : gIn (.int (x : Nat)) (tix b) = some (.bl (decide (x ∈ b))) := by
  refine gIn_pd (n := 0) (m := 0) (l := b.map fun i => D.int (i : Nat)) (.inr rfl) (by unfold Pd; trivial) (fun d hd => ?_) (by decide) (by decide) ?_
  · obtain ⟨i, _, rfl⟩ := List.mem_map.mp hd
    unfold Pd; trivial
  · constructor
    · intro h
      obtain ⟨i, hi, e⟩ := List.mem_map.mp h
      have := D.int.inj e
      have : i = x := by omega
      rw [← this]; exact hi
    · exact fun h => List.mem_map.mpr ⟨x, h, rfl⟩
def subsL : Nat → List (List Nat)
  | 0 => [[]]
  | k + 1 => subsL k ++ (subsL k).map fun one => one ++ [k]
theorem subs_len : ∀ k, (subsL k).length = 2 ^ k
  | 0 => rfl
  | k + 1 => by
    show (subsL k ++ _).length = _
    rw [List.length_append, List.length_map, subs_len k, Nat.pow_succ]
    omega
theorem subs_mem : ∀ {k : Nat} {a : List Nat}, a ∈ subsL k → a.length ≤ k ∧ (∀ x ∈ a, x < k) ∧ a.Pairwise (· < ·)
  | 0, a, h => by
    rw [List.mem_singleton.mp h]
    exact ⟨Nat.le_refl _, (fun x hx => nomatch hx), .nil⟩
  | k + 1, a, h => by
    rcases List.mem_append.mp h with h | h
    · obtain ⟨h1, h2, h3⟩ := subs_mem h
      exact ⟨by omega, fun x hx => by have := h2 x hx; omega, h3⟩
    · obtain ⟨b, hb, rfl⟩ := List.mem_map.mp h
      obtain ⟨h1, h2, h3⟩ := subs_mem hb
      refine ⟨by rw [List.length_append]; simp; omega, fun x hx => ?_, List.pairwise_append.mpr ⟨h3, List.pairwise_singleton _ _, fun x hx y hy => ?_⟩⟩
      · rcases List.mem_append.mp hx with z | z
        · have := h2 x z; omega
        · rw [List.mem_singleton.mp z]; omega
      · rw [List.mem_singleton.mp hy]
        exact h2 x hx
theorem add_tix {a b : List Nat} (h : a.length + b.length ≤ 10000) : gAdd (tix a) (tix b) = some (tix (a ++ b)) := by
  have sz := szv
  show (if (a.map fun i => D.int (i : Nat)).length + (b.map fun i => D.int (i : Nat)).length ≤ sizeLine then some (D.tup ((a.map fun i => D.int (i : Nat)) ++ (b.map fun i => D.int (i : Nat)))) else none) = _
  rw [if_pos (by rw [List.length_map, List.length_map]; omega), ← List.map_append]
theorem add_txs {a b : List (List Nat)} (h : a.length + b.length ≤ 10000) : gAdd (.lst (a.map tix)) (.lst (b.map tix)) = some (.lst ((a ++ b).map tix)) := by
  have sz := szv
  show (if (a.map tix).length + (b.map tix).length ≤ sizeLine then some (D.lst (a.map tix ++ b.map tix)) else none) = _
  rw [if_pos (by rw [List.length_map, List.length_map]; omega), ← List.map_append]
theorem v_lsubsets {c : Nat} (hc : c ≤ 6) (ρ : En) : (F_law_subsets [.int (c : Nat)]).R ρ = .ok (.lst ((subsL c).map tix)) ρ := by
  have sz := szv
  have p26 : ∀ k, k ≤ 6 → 2 ^ k ≤ 64 := fun k hk => Nat.pow_le_pow_right (by decide) hk
  have lp : ∀ (m k : Nat) (o2 o3 : Option D), k + m ≤ 6 → ∃ o2' o3', loopL (mgName 2) m_law_subsets_b1 ((List.range' k m).map fun i => D.int (i : Nat)) [some (.int (c : Nat)), some (.lst ((subsL k).map tix)), o2, o3] = .nx [some (.int (c : Nat)), some (.lst ((subsL (k + m)).map tix)), o2', o3'] := by
    intro m
    induction m with
    | zero => exact fun k o2 o3 _ => ⟨o2, o3, rfl⟩
    | succ m ih =>
      intro k o2 o3 hk
      obtain ⟨o2', o3', e⟩ := ih (k + 1) (some (.int (k : Nat))) o3 (by omega)
      refine ⟨o2', o3', ?_⟩
      have kl := p26 k (by omega)
      have lc := mLc_map (as := subsL k) (enc := tix) (vs := [3]) (g := mgName 3) (mi := mIter (mVar 1)) (me := m_law_subsets_e0) (ρ0 := [some (.int (c : Nat)), some (.lst ((subsL k).map tix)), some (.int (k : Nat)), o3]) (ρ := [some (.int (c : Nat)), some (.lst ((subsL k).map tix)), some (.int (k : Nat)), o3])
        (st := fun a => [some (.int (c : Nat)), some (.lst ((subsL k).map tix)), some (.int (k : Nat)), some (tix a)]) (f := fun a => tix (a ++ [k])) rfl (by rw [subs_len]; omega) (fun _ => rfl) (fun _ _ => rfl) (fun a ha => by
          have al := (subs_mem ha).1
          have g := add_tix (a := a) (b := [k]) (by simp; omega)
          have e1 : tix [k] = .tup [.int (k : Nat)] := rfl
          rw [e1] at g
          generalize tix (a ++ [k]) = X at *
          generalize tix a = A at *
          generalize D.lst ((subsL k).map tix) = L at *
          generalize (k : Int) = ki at *
          simp -implicitDefEqProofs [m_law_subsets_e0, g, show 1 ≤ sizeLine by omega])
      have em : (subsL k).map (fun a => tix (a ++ [k])) = ((subsL k).map fun one => one ++ [k]).map tix := by rw [List.map_map]; rfl
      rw [em] at lc
      have ga := add_txs (a := subsL k) (b := (subsL k).map fun one => one ++ [k]) (by rw [List.length_map, subs_len]; omega)
      have es : subsL k ++ (subsL k).map (fun one => one ++ [k]) = subsL (k + 1) := rfl
      rw [es] at ga
      have b : m_law_subsets_b1 [some (.int (c : Nat)), some (.lst ((subsL k).map tix)), some (.int (k : Nat)), o3] = .nx [some (.int (c : Nat)), some (.lst ((subsL (k + 1)).map tix)), some (.int (k : Nat)), o3] := by
        generalize D.lst ((subsL (k + 1)).map tix) = Y at *
        generalize D.lst (((subsL k).map fun one => one ++ [k]).map tix) = X at *
        generalize D.lst ((subsL k).map tix) = L at *
        generalize (k : Int) = ki at *
        unfold m_law_subsets_b1
        generalize mLc [3] (mIter (mVar 1)) (mgName 3) mYes m_law_subsets_e0 = mL at *
        simp -implicitDefEqProofs [lc, ga]
      have ek : k + (m + 1) = k + 1 + m := by omega
      rw [ek, ← e]
      show loopL _ _ (D.int (k : Nat) :: (List.range' (k + 1) m).map fun i => D.int (i : Nat)) _ = _
      rw [loop_step (ρ1 := [some (.int (c : Nat)), some (.lst ((subsL k).map tix)), some (.int (k : Nat)), o3]) rfl b]
  obtain ⟨o2, o3, e⟩ := lp c 0 none none (by omega)
  rw [← List.range_eq_range', Nat.zero_add] at e
  have rg := range1 (n := c) (by omega)
  have e0 : (msAsg (mN gLst (mCons (mN gTup mNil) mNil)) (mgName 1)) [some (.int (c : Nat)), none, none, none] = .nx [some (.int (c : Nat)), some (.lst ((subsL 0).map tix)), none, none] := by
    have : D.lst ((subsL 0).map tix) = .lst [.tup []] := rfl
    rw [this]
    simp -implicitDefEqProofs [show 1 ≤ sizeLine by omega]
  have e1 : (msFor (mItN gRange1 (mCons (mVar 0) mNil)) (mgName 2) m_law_subsets_b1) [some (.int (c : Nat)), some (.lst ((subsL 0).map tix)), none, none] = .nx [some (.int (c : Nat)), some (.lst ((subsL c).map tix)), o2, o3] := by
    rw [← e]
    clear e lp
    generalize (List.range c).map (fun i => D.int (i : Nat)) = RL at *
    generalize D.lst ((subsL 0).map tix) = L at *
    generalize m_law_subsets_b1 = B at *
    simp -implicitDefEqProofs [rg]
  have go : m_law_subsets [some (.int (c : Nat)), none, none, none] = .rt (.lst ((subsL c).map tix)) [some (.int (c : Nat)), some (.lst ((subsL c).map tix)), o2, o3] := by
    unfold m_law_subsets
    rw [seq_nx e0, seq_nx e1]
    rfl
  have := runM_rt (n := 4) (np := 1) (dd := []) (fr := false) (m := m_law_subsets) (ds := [.int (c : Nat)]) rfl go
  unfold F_law_subsets
  rw [this, Ret.R_rt]
end Q
namespace Q
open DL PySem PySem.Spec PyProof.Rows
def zI (a : List Nat) : List Int := a.map fun i : Nat => (i : Int)
theorem tix_z (a : List Nat) : tix a = .tup ((zI a).map D.int) := by
  show D.tup (a.map fun i => D.int (i : Nat)) = D.tup ((a.map fun i : Nat => (i : Int)).map D.int)
  rw [List.map_map]
  rfl
theorem zI_inj {a b : List Nat} (h : zI a = zI b) : a = b := by
  unfold zI at h
  exact List.map_inj_right (fun x y e => by have : (x : Int) = (y : Int) := e; omega) |>.mp h
theorem pyOf_tix (a : List Nat) : pyOf (tix a) = .tuple ((zI a).map .int) := by rw [tix_z]; exact (pyOf_ints (zI a)).2
theorem lt_tup (x y : List Int) : PySem.W.dataLt (.tuple (x.map .int)) (.tuple (y.map .int)) = decide (x < y) := by
  rw [PySem.W.dataLt_tuple]
  exact PySem.W.dataLt_ints x y
theorem eqv_tup (x y : List Int) : PyData.eqv (.tuple (x.map .int)) (.tuple (y.map .int)) = decide (x = y) := by
  have h : PyData.eqv (.tuple (x.map .int)) (.tuple (y.map .int)) = PyData.eqvAll (x.map .int) (y.map .int) := by rw [PyData.eqv]
  rw [h]
  induction x generalizing y with
  | nil =>
    cases y with
    | nil => simp [PyData.eqvAll]
    | cons b y => simp [PyData.eqvAll]
  | cons a x ih =>
    cases y with
    | nil => simp [PyData.eqvAll]
    | cons b y =>
      rw [List.map_cons, List.map_cons, PySem.W.eqv_all_cons, ih]
      · simp only [PyData.eqv]
        by_cases c : a = b
        · subst c; simp
        · simp [c]
      · rw [PyData.eqv]
def lE (a b : List Nat) : Bool := !decide (zI b < zI a)
theorem lLe_eq (a b : List Nat) : PySem.W.dataLe false pyOf (tix a) (tix b) = lE a b := by
  show (!PySem.W.dataLt (pyOf (tix b)) (pyOf (tix a))) = _
  rw [pyOf_tix, pyOf_tix, lt_tup]
  rfl
theorem tot {k : D → PyData} {le : List Nat → List Nat → Bool} (h : ∀ a b, PySem.W.dataLe false k (tix a) (tix b) = le a b) : PySem.W.TotalLe le where
  trans a b c h1 h2 := by
    rw [← h] at h1 h2 ⊢
    exact (PySem.W.sortLe_total _ _ _).trans _ _ _ h1 h2
  total a b := by
    rw [← h, ← h]
    exact (PySem.W.sortLe_total _ _ _).total _ _
theorem lE_tot : PySem.W.TotalLe lE := tot lLe_eq
theorem anti_l {a b : List Nat} (h1 : ¬ zI b < zI a) (h2 : ¬ zI a < zI b) : a = b := zI_inj (List.le_antisymm (List.not_lt.mp h1) (List.not_lt.mp h2))
theorem lE_anti {a b : List Nat} (h1 : lE a b = true) (h2 : lE b a = true) : a = b := by
  unfold lE at h1 h2
  exact anti_l (by simpa using h1) (by simpa using h2)
theorem sort_nop {le : List Nat → List Nat → Bool} {l : List (List Nat)} (h : l.length < 2) : l.mergeSort le = l := by
  match l, h with
  | [], _ => simp
  | [a], _ => simp
theorem py_tix (a : List Nat) : (tix a).py = some (.tuple ((zI a).map .int)) := by rw [tix_z]; exact (pyOf_ints (zI a)).1
theorem g_sortT {L : List (List Nat)} (h : 2 ≤ L.length → ∀ a ∈ L, a ≠ []) : gSortD [.lst (L.map tix)] = some (.lst ((L.mergeSort lE).map tix)) := by
  show (if (L.map tix).length < 2 then some (D.lst (L.map tix)) else if sortOk (L.map tix) = true then some (.lst ((L.map tix).mergeSort (PySem.W.dataLe false pyOf))) else none) = _
  by_cases c : L.length < 2
  · rw [if_pos (by rw [List.length_map]; exact c), sort_nop c]
  · have ok : sortOk (L.map tix) = true := by
      unfold sortOk
      rw [Bool.and_eq_true, Bool.and_eq_true, Bool.or_eq_true]
      refine ⟨⟨?_, ?_⟩, .inl ?_⟩
      · rw [List.all_map]
        refine List.all_eq_true.mpr fun a _ => ?_
        show ((tix a).py.isSome && decide ((pyOf (tix a)).depth ≤ 50)) = true
        have hd : (pyOf (tix a)).depth ≤ 50 := by
          rw [pyOf_tix]
          have := PySem.W.depth_ints (zI a)
          simp [PyData.depth, this]
        rw [py_tix, decide_eq_true hd]
        rfl
      · rw [List.all_map]
        refine List.all_eq_true.mpr fun a _ => ?_
        show ((L.map tix).all fun d' => PySem.W.alike (pyOf (tix a)) (pyOf d')) = true
        rw [List.all_map]
        refine List.all_eq_true.mpr fun b _ => ?_
        show PySem.W.alike (pyOf (tix a)) (pyOf (tix b)) = true
        rw [pyOf_tix, pyOf_tix]
        simp [PySem.W.alike, PySem.W.alike_ints]
      · rw [List.all_map]
        refine List.all_eq_true.mpr fun a ha => ?_
        show tupHead (pyOf (tix a)) = true
        rw [pyOf_tix]
        have hne := h (by omega) a ha
        cases a with
        | nil => exact absurd rfl hne
        | cons x xs => rfl
    rw [if_neg (by rw [List.length_map]; exact c), if_pos ok, List.map_mergeSort (f := tix) (r := lE) (fun a _ b _ => (lLe_eq a b).symm)]
end Q
namespace Q
open DL PySem PySem.Spec PyProof.Rows
def Td (n : Nat) (ps : List (List Int)) : List (List Nat) := (subsL ps.length).filter (tiedL n ps)
def minB (T : List (List Nat)) (one : List Nat) : Bool := !(T.any fun part => decide (part ≠ one) && partB part one)
theorem subs_Kk {ps : List (List Int)} (h : ps.length ≤ 6) {a : List Nat} (ha : a ∈ subsL ps.length) : Kk ps a ∧ a.Pairwise (· < ·) := by
  obtain ⟨h1, h2, h3⟩ := subs_mem ha
  exact ⟨⟨h2, by omega⟩, h3⟩
theorem tix_inj {a b : List Nat} : tix a = tix b ↔ a = b := by
  constructor
  · intro h
    rw [tix_z, tix_z] at h
    have := D.tup.inj h
    exact zI_inj (map_int_inj.mp this)
  · exact fun h => by rw [h]
theorem pd_tix (a : List Nat) : Pd 1 (tix a) := fun d hd => by
  obtain ⟨i, _, rfl⟩ := List.mem_map.mp hd
  unfold Pd; trivial
theorem notin_txs (x : List Nat) (L : List (List Nat)) : gNotIn (tix x) (.lst (L.map tix)) = some (.bl (!decide (x ∈ L))) := by
  refine gNotIn_pd (n := 1) (m := 1) (l := L.map tix) (.inl rfl) (pd_tix x) (fun d hd => ?_) (by decide) (by decide) ?_
  · obtain ⟨i, _, rfl⟩ := List.mem_map.mp hd
    exact pd_tix i
  · constructor
    · intro h
      obtain ⟨i, hi, e⟩ := List.mem_map.mp h
      rw [← tix_inj.mp e]; exact hi
    · exact fun h => List.mem_map.mpr ⟨x, h, rfl⟩
theorem app_txs (L : List (List Nat)) (h : L.length ≤ 1000) (x : List Nat) : gAppend (L.map tix) [tix x] = some (.non, (L ++ [x]).map tix) := by
  have sz := szv
  show (if (L.map tix).length < sizeLine then some (D.non, L.map tix ++ [tix x]) else none) = _
  rw [if_pos (by rw [List.length_map]; omega), List.map_append]
  rfl
end Q
namespace Q
open DL PySem PySem.Spec PyProof.Rows
end Q
namespace Q
def ordersN : Nat → List (List Nat)
  | 0 => [[]]
  | n + 1 => (ordersN n).flatMap fun o => (List.range (o.length + 1)).map fun p => o.take p ++ [n] ++ o.drop p
def wrongs (o : List Nat) : Nat := ((List.range o.length).map fun a => ((List.range a).filter fun j => decide (o.getD j 0 > o.getD a 0)).length).sum
def sgO (o : List Nat) : Rat := ((1 - 2 * (((wrongs o) % 2 : Nat) : Int) : Int) : Rat)
def prO (f : Nat → Nat → Rat) (o : List Nat) : Rat := (o.zipIdx.foldl (fun t p => t * f p.2 p.1) 1)
def ldet (n : Nat) (f : Nat → Nat → Rat) : Rat := ((ordersN n).map fun o => sgO o * prO f o).sum
end Q
namespace Q
section
variable {n W : Nat} {M : List (List Rat)} {ps : List Nat}
def prM (W : Nat) (M : List (List Rat)) (B : Nat → Nat → Rat) : Nat → Nat → Rat := fun i t => dv W (row M i) (fun k => B k t)
def Dk (n W : Nat) (M N : List (List Rat)) : Prop := ∃ s : Rat, s ≠ 0 ∧ ∀ B, ldet n (prM W N B) = s * ldet n (prM W M B)
theorem Dk.refl : Dk n W M M := ⟨1, by decide, fun B => by rw [Rat.one_mul]⟩
theorem Dk.trans {N P : List (List Rat)} (h : Dk n W M N) (g : Dk n W N P) : Dk n W M P := by
  obtain ⟨s, s0, e⟩ := h
  obtain ⟨t, t0, f⟩ := g
  refine ⟨t * s, fun z => ?_, fun B => by rw [f, e, Rat.mul_assoc]⟩
  rcases Rat.mul_eq_zero.mp z with h | h
  · exact t0 h
  · exact s0 h
end
end Q
namespace Q
open DL L2 PySem PySem.Spec PyProof.Rows
def vI (r : List Int) : Vc := fun t => ((r.getD t 0 : Int) : Rat)
def KI (W : Nat) (M : List (List Int)) (x : Vc) : Prop := ∀ r ∈ M, dv W (vI r) x = 0
end Q
namespace Q
open DL L2 PySem PySem.Spec PyProof.Rows
end Q
namespace Q
open DL L2 PySem PySem.Spec PyProof.Rows
end Q
namespace Q
section
variable {n : Nat} {ps : List (List Int)}
def Tri : List Own → Prop
  | [] => True
  | e :: F => e.2.getD e.1 0 ≠ 0 ∧ (∀ x ∈ F, x.2.getD e.1 0 = 0) ∧ Tri F
theorem Tri.snoc {p : Nat} {r : List Int} (hp : r.getD p 0 ≠ 0) : ∀ {F : List Own}, Tri F → (∀ e ∈ F, r.getD e.1 0 = 0) → Tri (F ++ [(p, r)])
  | [], _, _ => ⟨hp, (fun x hx => nomatch hx), trivial⟩
  | e :: F, h, hr => ⟨h.1, fun x hx => by
      rcases List.mem_append.mp hx with z | z
      · exact h.2.1 x z
      · rw [List.mem_singleton.mp z]; exact hr e List.mem_cons_self, Tri.snoc hp h.2.2 fun x hx => hr x (List.mem_cons_of_mem _ hx)⟩
theorem elim_zero {row : List Int} {e : Own} {i : Nat} (hi : i < row.length) (h : row.getD i 0 = 0) (he : e.2.getD i 0 = 0) : (elimS row e).getD i 0 = 0 := by
  unfold elimS
  split
  · rw [(short_pr row.length _).zero hi, cross_at hi, h, he]
    simp
  · exact h
theorem elim_self {row : List Int} {e : Own} (hi : e.1 < row.length) : (elimS row e).getD e.1 0 = 0 := by
  unfold elimS
  split
  · rw [(short_pr row.length _).zero hi, cross_at hi]
    rw [Int.mul_comm, Int.sub_self]
  · rename_i h
    simpa using h
theorem rest_zero : ∀ {F : List Own} {row : List Int}, Tri F → (∀ e ∈ F, e.1 < row.length) → (∀ e ∈ F, (restL F row).getD e.1 0 = 0) ∧ ∀ i, i < row.length → row.getD i 0 = 0 → (∀ x ∈ F, x.2.getD i 0 = 0) → (restL F row).getD i 0 = 0
  | [], row, _, _ => ⟨(fun e he => nomatch he), fun i _ h _ => h⟩
  | e :: F, row, h, hl => by
    have hl2 : ∀ x ∈ F, x.1 < (elimS row e).length := fun x hx => by rw [elim_len]; exact hl x (List.mem_cons_of_mem _ hx)
    obtain ⟨a, b⟩ := rest_zero (F := F) (row := elimS row e) h.2.2 hl2
    have he := hl e List.mem_cons_self
    refine ⟨fun x hx => ?_, fun i hi h0 hx => ?_⟩
    · show (restL F (elimS row e)).getD x.1 0 = 0
      rcases List.mem_cons.mp hx with rfl | hx
      · exact b x.1 (by rw [elim_len]; exact he) (elim_self he) h.2.1
      · exact a x hx
    · show (restL F (elimS row e)).getD i 0 = 0
      exact b i (by rw [elim_len]; exact hi) (elim_zero hi h0 (hx e List.mem_cons_self)) fun x hx' => hx x (List.mem_cons_of_mem _ hx')
theorem tri_nodup : ∀ {F : List Own}, Tri F → (∀ x ∈ F, x.2.getD x.1 0 ≠ 0) ∧ (F.map fun e => e.1).Nodup
  | [], _ => ⟨(fun x hx => nomatch hx), List.nodup_nil⟩
  | e :: F, h => by
    obtain ⟨a, b⟩ := tri_nodup h.2.2
    refine ⟨fun x hx => ?_, List.nodup_cons.mpr ⟨fun hm => ?_, b⟩⟩
    · rcases List.mem_cons.mp hx with rfl | hx
      · exact h.1
      · exact a x hx
    · obtain ⟨x, hx, e1⟩ := List.mem_map.mp hm
      have z := h.2.1 x hx
      have e1 : x.1 = e.1 := e1
      rw [← e1] at z
      exact a x hx z
theorem rank_le {w : Nat} {rows : List (List Int)} {m : Nat} (hw : w ≤ m) (hr : ∀ r ∈ rows, r.length = m) : rankL w rows ≤ w := by
  have go : ∀ (rs : List (List Int)) (F : List Own), (∀ r ∈ rs, r.length = m) → Tri F → (∀ e ∈ F, e.1 < w) → Tri (rs.foldl (stepL w) F) ∧ ∀ e ∈ rs.foldl (stepL w) F, e.1 < w := by
    intro rs
    induction rs with
    | nil => exact fun F _ h h2 => ⟨h, h2⟩
    | cons r rs ih =>
      intro F h hT hl
      have lr := h r List.mem_cons_self
      have s : stepL w F r = match firstNZ w (restL F r) with
        | some p => F ++ [(p, restL F r)]
        | none => F := rfl
      rw [List.foldl_cons]
      refine ih _ (fun x hx => h x (List.mem_cons_of_mem _ hx)) ?_ ?_
      · rw [s]
        cases c : firstNZ w (restL F r) with
        | none => exact hT
        | some p => exact hT.snoc (nzs_lt c).2 (rest_zero hT fun e he => by have := hl e he; omega).1
      · rw [s]
        cases c : firstNZ w (restL F r) with
        | none => exact hl
        | some p =>
          intro e he
          rcases List.mem_append.mp he with z | z
          · exact hl e z
          · rw [List.mem_singleton.mp z]; exact (nzs_lt c).1
  obtain ⟨t, l⟩ := go rows [] hr trivial fun e he => nomatch he
  have nd := (tri_nodup t).2
  have : ((rankS w rows).map fun e => e.1).length ≤ (List.range w).length := nd.length_le_of_subset fun x hx => by
    obtain ⟨e, he, rfl⟩ := List.mem_map.mp hx
    exact List.mem_range.mpr (l e he)
  rw [List.length_map, List.length_range] at this
  exact this
end
end Q
namespace Q
section
variable {n : Nat} {ps : List (List Int)}
def isC (n : Nat) (ps : List (List Int)) (P : List Nat) : Bool := tiedL n ps P && minB (Td n ps) P
end
end Q
namespace Q
abbrev fI (r : List Int) : Vc := fun i => ((r.getD i 0 : Int) : Rat)
abbrev RsI (rows : List (List Int)) : Vc → Prop := Rs (rows.map fI)
abbrev RsO (F : List Own) : Vc → Prop := Rs (F.map fun e => fI e.2)
theorem castQ {a : Int} : ((a : Int) : Rat) = 0 ↔ a = 0 := by
  constructor
  · intro h; exact_mod_cast h
  · intro h; rw [h]; rfl
theorem pr_f {m : Nat} {a b : List Int} (h : Pr m a b) (la : a.length = m) (lb : b.length = m) : ∃ c : Rat, c ≠ 0 ∧ fI a = fun i => c * fI b i := by
  obtain ⟨c, d, hc, hd, e⟩ := h
  have hc' : ((c : Int) : Rat) ≠ 0 := fun z => hc (castQ.mp z)
  have hd' : ((d : Int) : Rat) ≠ 0 := fun z => hd (castQ.mp z)
  refine ⟨(d : Rat) * (c : Rat)⁻¹, ?_, ?_⟩
  · intro z
    rcases Rat.mul_eq_zero.mp z with y | y
    · exact hd' y
    · exact hc' (by have := Rat.mul_inv_cancel _ hc'; rw [y, Rat.mul_zero] at this; exact absurd this (by decide))
  · funext i
    show ((a.getD i 0 : Int) : Rat) = _ * ((b.getD i 0 : Int) : Rat)
    by_cases hi : i < m
    · have := e i hi
      have e2 : (c : Rat) * ((a.getD i 0 : Int) : Rat) = (d : Rat) * ((b.getD i 0 : Int) : Rat) := by exact_mod_cast this
      have e3 := Rat.mul_inv_cancel _ hc'
      grind
    · have z1 : a.getD i 0 = 0 := by rw [List.getD_eq_getElem?_getD, List.getElem?_eq_none (by omega)]; rfl
      have z2 : b.getD i 0 = 0 := by rw [List.getD_eq_getElem?_getD, List.getElem?_eq_none (by omega)]; rfl
      rw [z1, z2]
      exact (Rat.mul_zero _).symm
theorem cross_len {row : List Int} {e : Own} : (crossI row e).length = row.length := by unfold crossI; simp
theorem elim_f {m : Nat} {row : List Int} {e : Own} (lr : row.length = m) (le : e.2.length = m) (hp : e.2.getD e.1 0 ≠ 0) : ∃ a b : Rat, a ≠ 0 ∧ fI (elimS row e) = fun i => a * fI row i + b * fI e.2 i := by
  unfold elimS
  split
  · obtain ⟨c, hc, e1⟩ := pr_f (short_pr m (crossI row e)) (by rw [shortI_len, cross_len]; exact lr) (by rw [cross_len]; exact lr)
    have hq : ((e.2.getD e.1 0 : Int) : Rat) ≠ 0 := fun z => hp (castQ.mp z)
    refine ⟨c * ((e.2.getD e.1 0 : Int) : Rat), -(c * ((row.getD e.1 0 : Int) : Rat)), fun z => (Rat.mul_eq_zero.mp z).elim hc hq, ?_⟩
    rw [e1]
    funext i
    have e2 : fI (crossI row e) i = ((e.2.getD e.1 0 : Int) : Rat) * fI row i - ((row.getD e.1 0 : Int) : Rat) * fI e.2 i := by
      show (((crossI row e).getD i 0 : Int) : Rat) = _ * ((row.getD i 0 : Int) : Rat) - _ * ((e.2.getD i 0 : Int) : Rat)
      by_cases hi : i < row.length
      · rw [cross_at hi]; push_cast; rfl
      · have z1 : (crossI row e).getD i 0 = 0 := by rw [List.getD_eq_getElem?_getD, List.getElem?_eq_none (by rw [cross_len]; omega)]; rfl
        have z2 : row.getD i 0 = 0 := by rw [List.getD_eq_getElem?_getD, List.getElem?_eq_none (by omega)]; rfl
        have z3 : e.2.getD i 0 = 0 := by rw [List.getD_eq_getElem?_getD, List.getElem?_eq_none (by omega)]; rfl
        rw [z1, z2, z3]
        have z0 : ((0 : Int) : Rat) = 0 := rfl
        rw [z0]
        grind
    show c * fI (crossI row e) i = _
    rw [e2]
    grind
  · exact ⟨1, 0, by decide, by funext i; grind⟩
structure Sf (m : Nat) (F : List Own) : Prop where
  tri : Tri F
  lt : ∀ e ∈ F, e.1 < m ∧ e.2.length = m
theorem Sf.nil {m : Nat} : Sf m [] := ⟨trivial, fun _ h => nomatch h⟩
theorem Sf.tail {m : Nat} {e : Own} {F : List Own} (h : Sf m (e :: F)) : Sf m F := ⟨h.tri.2.2, fun x hx => h.lt x (List.mem_cons_of_mem _ hx)⟩
theorem Rs.cons {L : List Vc} {x v : Vc} (h : Rs L v) : Rs (x :: L) v := h.sub fun r hr => .mem (List.mem_cons_of_mem _ hr)
theorem rest_f {m : Nat} : ∀ {F : List Own} {row : List Int}, Sf m F → row.length = m → ∃ a : Rat, a ≠ 0 ∧ ∃ u, RsO F u ∧ fI (restL F row) = fun i => u i + a * fI row i
  | [], row, _, _ => ⟨1, by decide, fun _ => 0, .zero, by funext i; show fI row i = _; grind⟩
  | e :: F, row, h, lr => by
    obtain ⟨a, b, ha, e1⟩ := elim_f lr (h.lt e List.mem_cons_self).2 h.tri.1
    obtain ⟨c, hc, u, hu, e2⟩ := rest_f (F := F) (row := elimS row e) h.tail (by rw [elim_len]; exact lr)
    refine ⟨c * a, fun z => (Rat.mul_eq_zero.mp z).elim hc ha, fun i => u i + (c * b) * fI e.2 i, .add _ hu.cons List.mem_cons_self, ?_⟩
    show fI (restL F (elimS row e)) = _
    rw [e2, e1]
    funext i
    grind
theorem tri_zero {m : Nat} : ∀ {F : List Own} {v : Vc}, Sf m F → RsO F v → (∀ e ∈ F, v e.1 = 0) → v = fun _ => 0
  | [], v, _, h, _ => by
    have : ∀ {v : Vc}, Rs [] v → v = fun _ => 0 := fun h => by
      induction h with
      | zero => rfl
      | add _ _ hm _ => cases hm
    exact this h
  | e :: F, v, h, hv, hz => by
    obtain ⟨a, ha⟩ := hv.split
    have z1 : ∀ w : Vc, RsO F w → w e.1 = 0 := fun w hw => by
      induction hw with
      | zero => rfl
      | add _ _ hm ih =>
        obtain ⟨x, hx, rfl⟩ := List.mem_map.mp hm
        have := castQ.mpr (h.tri.2.1 x hx)
        show _ + _ * ((x.2.getD e.1 0 : Int) : Rat) = 0
        rw [ih, this]; grind
    have z2 := z1 _ ha
    have z3 := hz e List.mem_cons_self
    have z4 : ((e.2.getD e.1 0 : Int) : Rat) ≠ 0 := fun z => h.tri.1 (castQ.mp z)
    have a0 : a = 0 := by
      have z2 : v e.1 + a * ((e.2.getD e.1 0 : Int) : Rat) = 0 := z2
      rw [z3, Rat.zero_add] at z2
      exact (Rat.mul_eq_zero.mp z2).elim id fun z => absurd z z4
    have e1 : (fun i => v i + a * fI e.2 i) = v := by funext i; rw [a0]; grind
    rw [e1] at ha
    exact tri_zero h.tail ha fun x hx => hz x (List.mem_cons_of_mem _ hx)
theorem far0 {m : Nat} {r : List Int} (lr : r.length = m) {i : Nat} (hi : ¬ i < m) : r.getD i 0 = 0 := by rw [List.getD_eq_getElem?_getD, List.getElem?_eq_none (by omega)]; rfl
theorem all0_f {m : Nat} {r : List Int} (lr : r.length = m) : (∀ i, i < m → r.getD i 0 = 0) ↔ fI r = fun _ => 0 :=
  ⟨fun h => funext fun i => castQ.mpr (if hi : i < m then h i hi else far0 lr hi), fun h i _ => castQ.mp (congrFun h i)⟩
theorem rest_iff {m : Nat} {F : List Own} {row : List Int} (h : Sf m F) (lr : row.length = m) : fI (restL F row) = (fun _ => 0) ↔ RsO F (fI row) := by
  obtain ⟨a, ha, u, hu, e⟩ := rest_f h lr
  constructor
  · intro z
    have : fI row = fun i => 0 + (-(a⁻¹)) * u i := by
      funext i
      have := congrFun (e.symm.trans z) i
      have this : u i + a * fI row i = 0 := this
      have := Rat.mul_inv_cancel _ ha
      grind
    rw [this]
    exact Rs.zero.comb _ hu
  · intro hr
    refine tri_zero h (e ▸ hu.comb a hr) fun x hx => castQ.mpr ?_
    exact (rest_zero h.tri fun y hy => by rw [lr]; exact (h.lt y hy).1).1 x hx
theorem Sf.snoc {m p : Nat} {F : List Own} {row : List Int} (h : Sf m F) (lr : row.length = m) (hp : p < m) (hn : (restL F row).getD p 0 ≠ 0) : Sf m (F ++ [(p, restL F row)]) :=
  ⟨h.tri.snoc hn (rest_zero h.tri fun y hy => by rw [lr]; exact (h.lt y hy).1).1, fun e he => by
    rcases List.mem_append.mp he with z | z
    · exact h.lt e z
    · rw [List.mem_singleton.mp z]; exact ⟨hp, by rw [rest_len]; exact lr⟩⟩
theorem Rs.iff {L L' : List Vc} (h1 : ∀ r ∈ L, Rs L' r) (h2 : ∀ r ∈ L', Rs L r) (v : Vc) : Rs L v ↔ Rs L' v := ⟨fun h => h.sub h1, fun h => h.sub h2⟩
theorem snoc_rs {m p : Nat} {F : List Own} {row : List Int} (h : Sf m F) (lr : row.length = m) (v : Vc) : RsO (F ++ [(p, restL F row)]) v ↔ Rs ((F.map fun e => fI e.2) ++ [fI row]) v := by
  obtain ⟨a, ha, u, hu, e⟩ := rest_f h lr
  refine Rs.iff (fun r hr => ?_) (fun r hr => ?_) v
  · rw [List.map_append] at hr
    rcases List.mem_append.mp hr with z | z
    · exact .mem (List.mem_append_left _ z)
    · have : r = fI (restL F row) := List.mem_singleton.mp z
      rw [this, e]
      exact (hu.sub fun r hr => .mem (List.mem_append_left _ hr)).comb a (.mem (List.mem_append_right _ List.mem_cons_self))
  · rcases List.mem_append.mp hr with z | z
    · exact .mem (by rw [List.map_append]; exact List.mem_append_left _ z)
    · rw [List.mem_singleton.mp z]
      have e1 : fI row = fun i => (0 + a⁻¹ * fI (restL F row) i) + (-(a⁻¹)) * u i := by
        funext i
        have := congrFun e i
        have this : fI (restL F row) i = u i + a * fI row i := this
        have := Rat.mul_inv_cancel _ ha
        grind
      rw [e1]
      have hm : RsO (F ++ [(p, restL F row)]) (fI (restL F row)) := .mem (by rw [List.map_append]; exact List.mem_append_right _ List.mem_cons_self)
      exact (Rs.zero.comb _ hm).comb _ (hu.sub fun r hr => .mem (by rw [List.map_append]; exact List.mem_append_left _ hr))
theorem same_rs {m : Nat} {F : List Own} {row : List Int} (h : RsO F (fI row)) (v : Vc) : RsO F v ↔ Rs ((F.map fun e => fI e.2) ++ [fI row]) v :=
  Rs.iff (fun r hr => .mem (List.mem_append_left _ hr)) (fun r hr => by
    rcases List.mem_append.mp hr with z | z
    · exact .mem z
    · rw [List.mem_singleton.mp z]; exact h) v
theorem rs_app {L L' : List Vc} (h : ∀ v, Rs L v ↔ Rs L' v) (M : List Vc) (v : Vc) : Rs (L ++ M) v ↔ Rs (L' ++ M) v :=
  Rs.iff (fun r hr => (List.mem_append.mp hr).elim (fun z => ((h r).mp (.mem z)).sub fun r hr => .mem (List.mem_append_left _ hr)) fun z => .mem (List.mem_append_right _ z))
    (fun r hr => (List.mem_append.mp hr).elim (fun z => ((h r).mpr (.mem z)).sub fun r hr => .mem (List.mem_append_left _ hr)) fun z => .mem (List.mem_append_right _ z)) v
theorem rank_sf {m : Nat} : ∀ (rows : List (List Int)) {F : List Own}, (∀ r ∈ rows, r.length = m) → Sf m F → Sf m (rows.foldl (stepL m) F) ∧ ∀ v, RsO (rows.foldl (stepL m) F) v ↔ Rs ((F.map fun e => fI e.2) ++ rows.map fI) v
  | [], F, _, h => ⟨h, fun v => by simp⟩
  | r :: rows, F, hr, h => by
    have lr := hr r List.mem_cons_self
    have hs : Sf m (stepL m F r) ∧ ∀ v, RsO (stepL m F r) v ↔ Rs ((F.map fun e => fI e.2) ++ [fI r]) v := by
      unfold stepL
      cases c : firstNZ m (restL F r) with
      | some p => exact ⟨h.snoc lr (nzs_lt c).1 (nzs_lt c).2, snoc_rs h lr⟩
      | none => exact ⟨h, same_rs (m := m) ((rest_iff h lr).mp ((all0_f (by rw [rest_len]; exact lr)).mp (nz_none c)))⟩
    obtain ⟨a, b⟩ := rank_sf rows (F := stepL m F r) (fun x hx => hr x (List.mem_cons_of_mem _ hx)) hs.1
    refine ⟨a, fun v => (b v).trans ((rs_app hs.2 _ v).trans ?_)⟩
    rw [List.append_assoc]; rfl
end Q
namespace Q
section
variable {n : Nat}
def MetR (n : Nat) (L : List Vc) : Prop := ∀ v, Rs L v → (∀ i, i < n → v i = 0) → v n = 0
theorem MetR.sub {L L' : List Vc} (h : MetR n L') (hs : ∀ r ∈ L, Rs L' r) : MetR n L := fun v hv => h v (hv.sub hs)
structure Sp0 (n : Nat) (S : List Own) : Prop where
  sf : Sf (n + 1) S
  lt : ∀ e ∈ S, e.1 < n
theorem Sp0.nil : Sp0 n [] := ⟨.nil, fun _ h => nomatch h⟩
theorem Sp0.met {S : List Own} (h : Sp0 n S) : MetR n (S.map fun e => fI e.2) := fun v hv hz => congrFun (tri_zero h.sf hv fun e he => hz e.1 (h.lt e he)) n
theorem short_f {m : Nat} {r : List Int} (lr : r.length = m) : ∃ c : Rat, c ≠ 0 ∧ fI (shortI r) = fun i => c * fI r i := pr_f (short_pr m r) (by rw [shortI_len]; exact lr) lr
theorem rs_scale {L : List Vc} {u v : Vc} {c : Rat} (hc : c ≠ 0) (e : u = fun i => c * v i) : Rs L u ↔ Rs L v := by
  constructor
  · intro h
    have : v = fun i => 0 + c⁻¹ * u i := by
      funext i
      rw [e]
      have := Rat.mul_inv_cancel _ hc
      grind
    rw [this]
    exact Rs.zero.comb _ h
  · intro h
    have : u = fun i => 0 + c * v i := by
      funext i
      rw [e]
      grind
    rw [this]
    exact Rs.zero.comb _ h
theorem restP_iff {S : List Own} {row : List Int} (h : Sf (n + 1) S) (lr : row.length = n + 1) : fI (restP S row) = (fun _ => 0) ↔ RsO S (fI row) := by
  obtain ⟨c, hc, e⟩ := short_f lr
  exact (rest_iff h (by rw [shortI_len]; exact lr)).trans (rs_scale hc e)
theorem restP_len {S : List Own} {row : List Int} (lr : row.length = n + 1) : (restP S row).length = n + 1 := by unfold restP; rw [rest_len, shortI_len]; exact lr
theorem snocP_rs {p : Nat} {S : List Own} {row : List Int} (h : Sf (n + 1) S) (lr : row.length = n + 1) (v : Vc) : RsO (S ++ [(p, restP S row)]) v ↔ Rs ((S.map fun e => fI e.2) ++ [fI row]) v := by
  obtain ⟨c, hc, e⟩ := short_f lr
  refine (snoc_rs h (by rw [shortI_len]; exact lr) v).trans (Rs.iff (fun r hr => ?_) (fun r hr => ?_) v)
  · rcases List.mem_append.mp hr with z | z
    · exact .mem (List.mem_append_left _ z)
    · rw [List.mem_singleton.mp z]
      exact (rs_scale hc e).mpr (.mem (List.mem_append_right _ List.mem_cons_self))
  · rcases List.mem_append.mp hr with z | z
    · exact .mem (List.mem_append_left _ z)
    · rw [List.mem_singleton.mp z]
      exact (rs_scale hc e).mp (.mem (List.mem_append_right _ List.mem_cons_self))
theorem Sp0.snoc {p : Nat} {S : List Own} {row : List Int} (h : Sp0 n S) (lr : row.length = n + 1) (hp : firstNZ n (restP S row) = some p) : Sp0 n (S ++ [(p, restP S row)]) :=
  ⟨h.sf.snoc (by rw [shortI_len]; exact lr) (by have := (nzs_lt hp).1; omega) (nzs_lt hp).2, fun e he => by
    rcases List.mem_append.mp he with z | z
    · exact h.lt e z
    · rw [List.mem_singleton.mp z]; exact (nzs_lt hp).1⟩
theorem span_go : ∀ (rows : List (List Int)) {S : List Own}, (∀ r ∈ rows, r.length = n + 1) → Sp0 n S → match spanP n S rows with
    | some T => Sp0 n T ∧ S.length ≤ T.length ∧ ∀ v, RsO T v ↔ Rs ((S.map fun e => fI e.2) ++ rows.map fI) v
    | none => ¬ MetR n ((S.map fun e => fI e.2) ++ rows.map fI)
  | [], S, _, h => ⟨h, Nat.le_refl _, fun v => by simp⟩
  | r :: rows, S, hr, h => by
    have lr := hr r List.mem_cons_self
    have hr2 : ∀ x ∈ rows, x.length = n + 1 := fun x hx => hr x (List.mem_cons_of_mem _ hx)
    have app : ∀ L : List Vc, (L ++ [fI r]) ++ rows.map fI = L ++ (r :: rows).map fI := fun L => by rw [List.append_assoc]; rfl
    have un : spanP n S (r :: rows) = match firstNZ n (restP S r) with
      | some p => spanP n (S ++ [(p, restP S r)]) rows
      | none => if (restP S r).getD n 0 ≠ 0 then none else spanP n S rows := rfl
    rw [un]
    cases c : firstNZ n (restP S r) with
    | some p =>
      have h2 := h.snoc lr c
      have rs := rs_app (snocP_rs (p := p) h.sf lr) (rows.map fI)
      have ih := span_go rows hr2 h2
      show match spanP n (S ++ [(p, restP S r)]) rows with
        | some T => _
        | none => _
      cases d : spanP n (S ++ [(p, restP S r)]) rows with
      | some T =>
        rw [d] at ih
        obtain ⟨a, b, e⟩ := ih
        refine ⟨a, by rw [List.length_append] at b; omega, fun v => ?_⟩
        rw [← app]
        exact (e v).trans (rs v)
      | none =>
        rw [d] at ih
        intro hm
        refine ih fun v hv => hm v ?_
        rw [← app]
        exact (rs v).mp hv
    | none =>
      have z0 := nz_none c
      by_cases q : (restP S r).getD n 0 = 0
      · have hin : RsO S (fI r) := (restP_iff h.sf lr).mp ((all0_f (restP_len lr)).mp fun i hi => by
          by_cases e : i = n
          · rw [e]; exact q
          · exact z0 i (by omega))
        have rs := rs_app (same_rs (m := n + 1) hin) (rows.map fI)
        have ih := span_go rows hr2 h
        simp only [q, ne_eq, not_true_eq_false, if_false]
        cases d : spanP n S rows with
        | some T =>
          rw [d] at ih
          obtain ⟨a, b, e⟩ := ih
          refine ⟨a, b, fun v => ?_⟩
          rw [← app]
          exact (e v).trans (rs v)
        | none =>
          rw [d] at ih
          intro hm
          refine ih fun v hv => hm v ?_
          rw [← app]
          exact (rs v).mp hv
      · simp only [ne_eq, q, not_false_eq_true, if_true]
        intro hm
        obtain ⟨c1, hc1, e1⟩ := short_f lr
        obtain ⟨a, ha, u, hu, e⟩ := rest_f h.sf (row := shortI r) (by rw [shortI_len]; exact lr)
        have hin : Rs ((S.map fun e => fI e.2) ++ (r :: rows).map fI) (fI (restP S r)) := by
          show Rs _ (fI (restL S (shortI r)))
          rw [e]
          exact (hu.sub fun x hx => .mem (List.mem_append_left _ hx)).comb a ((rs_scale hc1 e1).mpr (.mem (List.mem_append_right _ List.mem_cons_self)))
        exact q (castQ.mp (hm _ hin fun i hi => castQ.mpr (z0 i hi)))
theorem span_some {rows : List (List Int)} (hr : ∀ r ∈ rows, r.length = n + 1) {S : List Own} (e : spanP n [] rows = some S) : Sp0 n S ∧ ∀ v, RsO S v ↔ RsI rows v := by
  have := span_go rows hr Sp0.nil
  rw [e] at this
  exact ⟨this.1, this.2.2⟩
theorem span_is {rows : List (List Int)} (hr : ∀ r ∈ rows, r.length = n + 1) : (spanP n [] rows).isSome = true ↔ MetR n (rows.map fI) := by
  have := span_go rows hr Sp0.nil
  cases e : spanP n [] rows with
  | some S =>
    rw [e] at this
    exact ⟨fun _ v hv => this.1.met v ((this.2.2 v).mpr hv), fun _ => rfl⟩
  | none =>
    rw [e] at this
    exact iff_of_false (fun h => nomatch h) this
def TriV : List (Nat × Vc) → Prop
  | [] => True
  | e :: F => e.2 e.1 ≠ 0 ∧ (∀ x ∈ F, x.2 e.1 = 0) ∧ TriV F
theorem lastV {B : List Vc} : ∀ (F : List (Nat × Vc)), (∀ e ∈ F, Rs B e.2) ∨ ∃ l1 p l2, F = l1 ++ p :: l2 ∧ ¬ Rs B p.2 ∧ ∀ e ∈ l2, Rs B e.2
  | [] => .inl fun _ h => nomatch h
  | e :: F => by
    rcases lastV (B := B) F with h | ⟨l1, p, l2, rfl, np, h⟩
    · by_cases c : Rs B e.2
      · exact .inl fun x hx => (List.mem_cons.mp hx).elim (fun z => z ▸ c) (h x)
      · exact .inr ⟨[], e, F, rfl, c, h⟩
    · exact .inr ⟨e :: l1, p, l2, rfl, np, h⟩
theorem triV_cut {p : Nat × Vc} {B : List Vc} (hx : ∀ v : Vc, (∃ a : Rat, Rs B fun i => v i + a * p.2 i) ∨ True) : ∀ {l1 l2 : List (Nat × Vc)}, TriV (l1 ++ p :: l2) → (∀ e ∈ l1, ∃ t : Rat, Rs B fun i => e.2 i + t * p.2 i) → (∀ e ∈ l2, Rs B e.2) → ∃ l : List (Nat × Vc), TriV l ∧ l.length = l1.length + l2.length ∧ (∀ e ∈ l, Rs B e.2) ∧ ∀ i, (∀ e ∈ l1, e.2 i = 0) → p.2 i = 0 → (∀ e ∈ l2, e.2 i = 0) → ∀ e ∈ l, e.2 i = 0
  | [], l2, h, _, h2 => ⟨l2, h.2.2, by simp, h2, fun i _ _ z => z⟩
  | e :: l1, l2, h, h1, h2 => by
    obtain ⟨t, ht⟩ := h1 e List.mem_cons_self
    obtain ⟨l, a, b, c, d⟩ := triV_cut hx h.2.2 (fun x hx => h1 x (List.mem_cons_of_mem _ hx)) h2
    have pz : p.2 e.1 = 0 := h.2.1 p (by simp)
    refine ⟨(e.1, fun i => e.2 i + t * p.2 i) :: l, ⟨?_, ?_, a⟩, by simp [b]; omega, ?_, ?_⟩
    · show e.2 e.1 + t * p.2 e.1 ≠ 0
      rw [pz, Rat.mul_zero, Rat.add_zero]
      exact h.1
    · exact d e.1 (fun x hx => h.2.1 x (by simp [hx])) pz fun x hx => h.2.1 x (by simp [hx])
    · intro x hx
      rcases List.mem_cons.mp hx with rfl | hx
      · exact ht
      · exact c x hx
    · intro i z1 z2 z3 x hx
      rcases List.mem_cons.mp hx with rfl | hx
      · show e.2 i + t * p.2 i = 0
        rw [z1 e List.mem_cons_self, z2]; grind
      · exact d i (fun y hy => z1 y (List.mem_cons_of_mem _ hy)) z2 z3 x hx
theorem triV_le : ∀ (B : List Vc) (F : List (Nat × Vc)), TriV F → (∀ p ∈ F, Rs B p.2) → F.length ≤ B.length
  | [], F, h, hs => by
    cases F with
    | nil => exact Nat.le_refl _
    | cons p F =>
      have z : ∀ v, Rs [] v → v p.1 = 0 := fun v hv => by
        induction hv with
        | zero => rfl
        | add _ _ hm _ => cases hm
      exact absurd (z _ (hs p List.mem_cons_self)) h.1
  | b :: B, F, h, hs => by
    rcases lastV (B := B) F with c | ⟨l1, p, l2, rfl, np, h2⟩
    · exact Nat.le_succ_of_le (triV_le B F h c)
    · obtain ⟨ap, hap⟩ := (hs p (by simp)).split
      have ap0 : ap ≠ 0 := fun z => by
        apply np
        have e : (fun i => p.2 i + ap * b i) = p.2 := by funext i; rw [z]; grind
        rw [e] at hap
        exact hap
      obtain ⟨l, a, b', c, _⟩ := triV_cut (p := p) (B := B) (fun _ => .inr trivial) h (fun q hq => by
        obtain ⟨a, ha⟩ := (hs q (by simp [hq])).split
        refine ⟨-(a * ap⁻¹), ?_⟩
        have := ha.comb (-(a * ap⁻¹)) hap
        refine Eq.mp ?_ this
        congr 1
        funext i
        have := Rat.mul_inv_cancel _ ap0
        grind) h2
      have := triV_le B l a c
      rw [List.length_append, List.length_cons, List.length_cons]
      omega
theorem tri_triV : ∀ {F : List Own}, Tri F → TriV (F.map fun e => (e.1, fI e.2))
  | [], _ => trivial
  | e :: F, h => ⟨fun z => h.1 (castQ.mp z), fun x hx => by
      obtain ⟨y, hy, rfl⟩ := List.mem_map.mp hx
      exact castQ.mpr (h.2.1 y hy), tri_triV h.2.2⟩
theorem tri_le {F F' : List Own} (h : Tri F) (hs : ∀ v, RsO F v → RsO F' v) : F.length ≤ F'.length := by
  have := triV_le (F'.map fun e => fI e.2) (F.map fun e => (e.1, fI e.2)) (tri_triV h) fun p hp => by
    obtain ⟨x, hx, rfl⟩ := List.mem_map.mp hp
    exact hs _ (.mem (List.mem_map_of_mem (f := fun e : Own => fI e.2) hx))
  rwa [List.length_map, List.length_map] at this
end
end Q
namespace Q
section
variable {n : Nat} {ps : List (List Int)}
theorem rankS_sf {m : Nat} {rows : List (List Int)} (hr : ∀ r ∈ rows, r.length = m) : Sf m (rankS m rows) ∧ ∀ v, RsO (rankS m rows) v ↔ RsI rows v := rank_sf rows hr .nil
theorem rank_same {m : Nat} {rows rows' : List (List Int)} (hr : ∀ r ∈ rows, r.length = m) (hr' : ∀ r ∈ rows', r.length = m) (h : ∀ v, RsI rows v ↔ RsI rows' v) : rankL m rows = rankL m rows' := by
  obtain ⟨a, b⟩ := rankS_sf hr
  obtain ⟨a', b'⟩ := rankS_sf hr'
  exact Nat.le_antisymm (tri_le a.tri fun v hv => (b' v).mpr ((h v).mp ((b v).mp hv))) (tri_le a'.tri fun v hv => (b v).mpr ((h v).mpr ((b' v).mp hv)))
theorem rank_snoc {m : Nat} {rows : List (List Int)} (hr : ∀ r ∈ rows, r.length = m) {r : List Int} (lr : r.length = m) : rankL m (rows ++ [r]) = rankL m rows + (if firstNZ m (restL (rankS m rows) r) = none then 0 else 1) := by
  obtain ⟨a, b⟩ := rankS_sf hr
  have e : rankS m (rows ++ [r]) = stepL m (rankS m rows) r := by unfold rankS; rw [List.foldl_append]; rfl
  unfold rankL
  rw [e]
  unfold stepL
  cases c : firstNZ m (restL (rankS m rows) r) with
  | some p =>
    rw [if_neg (fun z => nomatch z), List.length_append]
    rfl
  | none =>
    rw [if_pos rfl]
    rfl
theorem nz_iff {m : Nat} {r : List Int} (lr : r.length = m) : firstNZ m r = none ↔ fI r = fun _ => 0 := by
  constructor
  · exact fun h => (all0_f lr).mp (nz_none h)
  · intro h
    cases c : firstNZ m r with
    | none => rfl
    | some p => exact absurd (castQ.mp (congrFun h p)) (nzs_lt c).2
theorem rank_in {m : Nat} {rows : List (List Int)} (hr : ∀ r ∈ rows, r.length = m) {r : List Int} (lr : r.length = m) : rankL m (rows ++ [r]) = rankL m rows ↔ RsI rows (fI r) := by
  obtain ⟨a, b⟩ := rankS_sf hr
  rw [rank_snoc hr lr, ← b (fI r), ← rest_iff a lr, ← nz_iff (show (restL (rankS m rows) r).length = m by rw [rest_len]; exact lr)]
  split
  · rename_i h; exact ⟨fun _ => h, fun _ => rfl⟩
  · rename_i h; exact ⟨fun z => absurd z (by omega), fun z => absurd z h⟩
theorem rank_out {m : Nat} {rows : List (List Int)} (hr : ∀ r ∈ rows, r.length = m) {r : List Int} (lr : r.length = m) (h : ¬ RsI rows (fI r)) : rankL m (rows ++ [r]) = rankL m rows + 1 := by
  have := mt (rank_in hr lr).mp h
  have e := rank_snoc hr lr
  split at e
  · exact absurd e this
  · exact e
theorem span_rk {rows : List (List Int)} (hr : ∀ r ∈ rows, r.length = n + 1) {S : List Own} (h : Sf (n + 1) S) (hs : ∀ v, RsO S v ↔ RsI rows v) : S.length = rankL (n + 1) rows := by
  obtain ⟨a, b⟩ := rankS_sf hr
  exact Nat.le_antisymm (tri_le h.tri fun v hv => (b v).mpr ((hs v).mp hv)) (tri_le a.tri fun v hv => (hs v).mpr ((b v).mp hv))
theorem pickK_len1 (hp : ∀ p ∈ ps, p.length = n + 1) {ks : List Nat} (hk : ∀ k ∈ ks, k < ps.length) : ∀ r ∈ pickK ps ks, r.length = n + 1 := fun r hr => by
  obtain ⟨k, hk', rfl⟩ := List.mem_map.mp hr
  have lt := hk k hk'
  rw [List.getD_eq_getElem?_getD, List.getElem?_eq_getElem lt]
  exact hp _ (List.getElem_mem lt)
theorem met_iff (hp : ∀ p ∈ ps, p.length = n + 1) {ks : List Nat} (hk : ∀ k ∈ ks, k < ps.length) : metL n ps ks = true ↔ MetR n ((pickK ps ks).map fI) := by
  have hr := pickK_len1 hp hk
  rw [← span_is hr, span_met hr]
  rfl
def clL (n : Nat) (ps : List (List Int)) (ks : List Nat) : List Nat := (List.range ps.length).filter fun k => decide (rankL (n + 1) (pickK ps ks ++ [ps.getD k []]) = rankL (n + 1) (pickK ps ks))
def clP (S : List Own) (ps : List (List Int)) : List Nat := (List.range ps.length).filter fun k => !(restP S (ps.getD k [])).any fun a => decide (a ≠ 0)
theorem row_at (hp : ∀ p ∈ ps, p.length = n + 1) {k : Nat} (hk : k < ps.length) : (ps.getD k []).length = n + 1 := by
  rw [List.getD_eq_getElem?_getD, List.getElem?_eq_getElem hk]
  exact hp _ (List.getElem_mem hk)
theorem clL_mem (hp : ∀ p ∈ ps, p.length = n + 1) {ks : List Nat} (hk : ∀ k ∈ ks, k < ps.length) {k : Nat} : k ∈ clL n ps ks ↔ k < ps.length ∧ RsI (pickK ps ks) (fI (ps.getD k [])) := by
  unfold clL
  rw [List.mem_filter, List.mem_range]
  constructor
  · rintro ⟨a, b⟩
    exact ⟨a, (rank_in (pickK_len1 hp hk) (row_at hp a)).mp (of_decide_eq_true b)⟩
  · rintro ⟨a, b⟩
    exact ⟨a, decide_eq_true ((rank_in (pickK_len1 hp hk) (row_at hp a)).mpr b)⟩
theorem any0 {r : List Int} {m : Nat} (lr : r.length = m) : (!r.any fun a => decide (a ≠ 0)) = true ↔ fI r = fun _ => 0 := by
  rw [← all0_f lr, Bool.not_eq_true', List.any_eq_false]
  constructor
  · intro h i hi
    rw [List.getD_eq_getElem?_getD, List.getElem?_eq_getElem (lr ▸ hi)]
    have := h _ (List.getElem_mem (lr ▸ hi))
    simpa using this
  · intro h a ha
    obtain ⟨i, hi, rfl⟩ := List.getElem_of_mem ha
    have := h i (lr ▸ hi)
    rw [List.getD_eq_getElem?_getD, List.getElem?_eq_getElem hi] at this
    simpa using this
theorem clP_eq (hp : ∀ p ∈ ps, p.length = n + 1) {ks : List Nat} (hk : ∀ k ∈ ks, k < ps.length) {S : List Own} (h : Sf (n + 1) S) (hs : ∀ v, RsO S v ↔ RsI (pickK ps ks) v) : clP S ps = clL n ps ks := by
  unfold clP clL
  refine List.filter_congr fun k hk' => ?_
  have lt := List.mem_range.mp hk'
  have lr := row_at hp lt
  rw [Bool.eq_iff_iff, decide_eq_true_iff, any0 (restP_len lr), restP_iff h lr, hs, rank_in (pickK_len1 hp hk) lr]
theorem cl_lt {ks : List Nat} : ∀ k ∈ clL n ps ks, k < ps.length := fun k hk => List.mem_range.mp (List.mem_filter.mp hk).1
theorem pick_rs {ks ks' : List Nat} (h : ∀ k ∈ ks, RsI (pickK ps ks') (fI (ps.getD k []))) {v : Vc} (hv : RsI (pickK ps ks) v) : RsI (pickK ps ks') v :=
  hv.sub fun r hr => by
    obtain ⟨r', hr', rfl⟩ := List.mem_map.mp hr
    obtain ⟨k, hk, rfl⟩ := List.mem_map.mp hr'
    exact h k hk
theorem pick_has {ks : List Nat} {k : Nat} (h : k ∈ ks) : RsI (pickK ps ks) (fI (ps.getD k [])) := .mem (List.mem_map_of_mem (List.mem_map_of_mem (f := fun k => ps.getD k []) h))
theorem pick_sub {ks ks' : List Nat} (h : ∀ k ∈ ks, k ∈ ks') {v : Vc} (hv : RsI (pickK ps ks) v) : RsI (pickK ps ks') v := pick_rs (fun k hk => pick_has (h k hk)) hv
theorem cl_rs (hp : ∀ p ∈ ps, p.length = n + 1) {ks : List Nat} (hk : ∀ k ∈ ks, k < ps.length) (v : Vc) : RsI (pickK ps (clL n ps ks)) v ↔ RsI (pickK ps ks) v :=
  ⟨pick_rs fun k hk' => ((clL_mem hp hk).mp hk').2, pick_sub fun k hk' => (clL_mem hp hk).mpr ⟨hk k hk', pick_has hk'⟩⟩
theorem cl_same (hp : ∀ p ∈ ps, p.length = n + 1) {ks ks' : List Nat} (hk : ∀ k ∈ ks, k < ps.length) (hk' : ∀ k ∈ ks', k < ps.length) (h : ∀ v, RsI (pickK ps ks) v ↔ RsI (pickK ps ks') v) : clL n ps ks = clL n ps ks' := by
  unfold clL
  refine List.filter_congr fun k hm => ?_
  have lr := row_at hp (List.mem_range.mp hm)
  rw [Bool.eq_iff_iff, decide_eq_true_iff, decide_eq_true_iff, rank_in (pickK_len1 hp hk) lr, rank_in (pickK_len1 hp hk') lr, h]
theorem cl_cl (hp : ∀ p ∈ ps, p.length = n + 1) {ks : List Nat} (hk : ∀ k ∈ ks, k < ps.length) : clL n ps (clL n ps ks) = clL n ps ks := cl_same hp cl_lt hk (cl_rs hp hk)
theorem met_same (hp : ∀ p ∈ ps, p.length = n + 1) {ks ks' : List Nat} (h : ∀ v, RsI (pickK ps ks) v ↔ RsI (pickK ps ks') v) : MetR n ((pickK ps ks).map fI) ↔ MetR n ((pickK ps ks').map fI) :=
  ⟨fun m => m.sub fun r hr => (h r).mpr (.mem hr), fun m => m.sub fun r hr => (h r).mp (.mem hr)⟩
theorem pick_app (ks : List Nat) (k : Nat) : pickK ps (ks ++ [k]) = pickK ps ks ++ [ps.getD k []] := by unfold pickK; rw [List.map_append]; rfl
abbrev Lvl := List (List Nat × List Own)
def keysL (L : Lvl) : List (List Nat) := L.map fun e => e.1
def lput (L : Lvl) (k : List Nat) (v : List Own) : Lvl := if k ∈ keysL L then L.map fun e => if e.1 = k then (e.1, v) else e else L ++ [(k, v)]
def lvStep (n : Nat) (ps : List (List Int)) (e : List Nat × List Own) (D : Lvl) (k : Nat) : Lvl :=
  if k ∈ e.1 then D else match firstNZ n (restP e.2 (ps.getD k [])) with
    | none => D
    | some p => lput D (clP (e.2 ++ [(p, restP e.2 (ps.getD k []))]) ps) (e.2 ++ [(p, restP e.2 (ps.getD k []))])
def lvIn (n : Nat) (ps : List (List Int)) (D : Lvl) (e : List Nat × List Own) : Lvl := (List.range ps.length).foldl (lvStep n ps e) D
def lvNext (n : Nat) (ps : List (List Int)) (L : Lvl) : Lvl := L.foldl (lvIn n ps) []
def lvAll (n : Nat) (ps : List (List Int)) : Nat → Lvl
  | 0 => [(clP [] ps, [])]
  | r + 1 => lvNext n ps (lvAll n ps r)
theorem lput_keys (L : Lvl) (k : List Nat) (v : List Own) : keysL (lput L k v) = if k ∈ keysL L then keysL L else keysL L ++ [k] := by
  unfold lput
  split
  · unfold keysL
    rw [List.map_map]
    refine List.map_congr_left fun e _ => ?_
    show (if e.1 = k then (e.1, v) else e).1 = e.1
    split <;> rfl
  · unfold keysL
    rw [List.map_append]
    rfl
theorem lput_mem {L : Lvl} {k : List Nat} {v : List Own} {e : List Nat × List Own} : e ∈ lput L k v → e ∈ L ∨ e = (k, v) := by
  unfold lput
  split
  · intro h
    obtain ⟨x, hx, rfl⟩ := List.mem_map.mp h
    split
    · rename_i c
      exact .inr (by rw [c])
    · exact .inl hx
  · intro h
    exact (List.mem_append.mp h).imp id List.mem_singleton.mp
theorem lput_nodup {L : Lvl} {k : List Nat} {v : List Own} (h : (keysL L).Nodup) : (keysL (lput L k v)).Nodup := by
  rw [lput_keys]
  split
  · exact h
  · rename_i c
    exact List.nodup_append.mpr ⟨h, by simp, fun a ha b hb => by rw [List.mem_singleton.mp hb]; exact fun z => c (z ▸ ha)⟩
structure Ent (n : Nat) (ps : List (List Int)) (r : Nat) (e : List Nat × List Own) : Prop where
  sp : Sp0 n e.2
  rs : ∀ v, RsO e.2 v ↔ RsI (pickK ps e.1) v
  key : e.1 = clL n ps e.1
  len : e.2.length = r
  sz : SzF (n + 1) n 4 e.2
theorem Ent.lt {r : Nat} {e : List Nat × List Own} (h : Ent n ps r e) : ∀ k ∈ e.1, k < ps.length := by rw [h.key]; exact cl_lt
theorem Ent.met {r : Nat} {e : List Nat × List Own} (h : Ent n ps r e) : MetR n ((pickK ps e.1).map fI) := fun v hv => h.sp.met v ((h.rs v).mpr hv)
theorem ent_next (hp : ∀ p ∈ ps, p.length = n + 1) (hz : ∀ p ∈ ps, szR (n + 1) 4 p) {r : Nat} {e : List Nat × List Own} (h : Ent n ps r e) {k p : Nat} (hk : k < ps.length) (hf : firstNZ n (restP e.2 (ps.getD k [])) = some p) :
    Ent n ps (r + 1) (clP (e.2 ++ [(p, restP e.2 (ps.getD k []))]) ps, e.2 ++ [(p, restP e.2 (ps.getD k []))]) ∧ clP (e.2 ++ [(p, restP e.2 (ps.getD k []))]) ps = clL n ps (e.1 ++ [k]) ∧ MetR n ((pickK ps (e.1 ++ [k])).map fI) := by
  have lr := row_at hp hk
  have sp := h.sp.snoc lr hf
  have lt2 : ∀ x ∈ e.1 ++ [k], x < ps.length := fun x hx => by
    rcases List.mem_append.mp hx with z | z
    · exact h.lt x z
    · rw [List.mem_singleton.mp z]; exact hk
  have rs : ∀ v, RsO (e.2 ++ [(p, restP e.2 (ps.getD k []))]) v ↔ RsI (pickK ps (e.1 ++ [k])) v := fun v => by
    rw [pick_app]
    show _ ↔ Rs ((pickK ps e.1 ++ [ps.getD k []]).map fI) v
    rw [List.map_append]
    exact (snocP_rs h.sp.sf lr v).trans (rs_app h.rs _ v)
  have ce := clP_eq hp lt2 sp.sf rs
  refine ⟨⟨sp, fun v => ?_, ?_, by show (e.2 ++ _).length = _; rw [List.length_append, h.len]; rfl, ?_⟩, ce, fun v hv => sp.met v ((rs v).mpr hv)⟩
  · show _ ↔ RsI (pickK ps (clP _ ps)) v
    rw [ce]
    exact (rs v).trans (cl_rs hp lt2 v).symm
  · show clP _ ps = clL n ps (clP _ ps)
    rw [ce]
    exact (cl_cl hp lt2).symm
  · exact h.sz.snoc (nzs_lt hf).1 (restP_sz (hz _ (by
      rw [List.getD_eq_getElem?_getD, List.getElem?_eq_getElem hk]; exact List.getElem_mem hk)) h.sz)
theorem step_ent (hp : ∀ p ∈ ps, p.length = n + 1) (hz : ∀ p ∈ ps, szR (n + 1) 4 p) {r : Nat} {e : List Nat × List Own} (h : Ent n ps r e) : ∀ (xs : List Nat) {D : Lvl}, (∀ k ∈ xs, k < ps.length) → (keysL D).Nodup → (∀ x ∈ D, Ent n ps (r + 1) x) →
    (keysL (xs.foldl (lvStep n ps e) D)).Nodup ∧ (∀ x ∈ xs.foldl (lvStep n ps e) D, Ent n ps (r + 1) x) ∧ ∀ f, f ∈ keysL (xs.foldl (lvStep n ps e) D) ↔ f ∈ keysL D ∨ ∃ k ∈ xs, k ∉ e.1 ∧ (firstNZ n (restP e.2 (ps.getD k []))).isSome = true ∧ f = clL n ps (e.1 ++ [k])
  | [], D, _, h1, h2 => ⟨h1, h2, fun f => ⟨.inl, fun z => z.elim id fun ⟨_, m, _⟩ => nomatch m⟩⟩
  | k :: xs, D, hx, h1, h2 => by
    have hk := hx k List.mem_cons_self
    have hx2 : ∀ k ∈ xs, k < ps.length := fun x hm => hx x (List.mem_cons_of_mem _ hm)
    rw [List.foldl_cons]
    have skip : (¬ (k ∉ e.1 ∧ (firstNZ n (restP e.2 (ps.getD k []))).isSome = true)) → lvStep n ps e D k = D → _ := fun no eq => by
      have ih := step_ent hp hz h xs hx2 h1 h2
      rw [← eq] at ih
      refine (⟨ih.1, ih.2.1, fun f => (ih.2.2 f).trans ?_⟩ : (keysL (xs.foldl (lvStep n ps e) (lvStep n ps e D k))).Nodup ∧ (∀ x ∈ xs.foldl (lvStep n ps e) (lvStep n ps e D k), Ent n ps (r + 1) x) ∧ ∀ f, f ∈ keysL (xs.foldl (lvStep n ps e) (lvStep n ps e D k)) ↔ f ∈ keysL D ∨ ∃ k' ∈ k :: xs, k' ∉ e.1 ∧ (firstNZ n (restP e.2 (ps.getD k' []))).isSome = true ∧ f = clL n ps (e.1 ++ [k']))
      rw [eq]
      constructor
      · rintro (z | ⟨x, a, b⟩)
        · exact .inl z
        · exact .inr ⟨x, List.mem_cons_of_mem _ a, b⟩
      · rintro (z | ⟨x, a, b, c, d⟩)
        · exact .inl z
        · rcases List.mem_cons.mp a with rfl | a
          · exact absurd ⟨b, c⟩ no
          · exact .inr ⟨x, a, b, c, d⟩
    by_cases c1 : k ∈ e.1
    · exact skip (fun z => z.1 c1) (by unfold lvStep; rw [if_pos c1])
    · cases c2 : firstNZ n (restP e.2 (ps.getD k [])) with
      | none => exact skip (fun z => by rw [c2] at z; exact absurd z.2 (by decide)) (by unfold lvStep; rw [if_neg c1, c2])
      | some p =>
        obtain ⟨en, ce, mt⟩ := ent_next hp hz h hk c2
        have un : lvStep n ps e D k = lput D (clP (e.2 ++ [(p, restP e.2 (ps.getD k []))]) ps) (e.2 ++ [(p, restP e.2 (ps.getD k []))]) := by unfold lvStep; rw [if_neg c1, c2]
        rw [un]
        have ih := step_ent hp hz h xs hx2 (D := lput D (clP (e.2 ++ [(p, restP e.2 (ps.getD k []))]) ps) (e.2 ++ [(p, restP e.2 (ps.getD k []))])) (lput_nodup h1) (fun x hm => (lput_mem hm).elim (h2 x) fun z => z ▸ en)
        refine ⟨ih.1, ih.2.1, fun f => (ih.2.2 f).trans ?_⟩
        have km : f ∈ keysL (lput D (clP (e.2 ++ [(p, restP e.2 (ps.getD k []))]) ps) (e.2 ++ [(p, restP e.2 (ps.getD k []))])) ↔ f ∈ keysL D ∨ f = clL n ps (e.1 ++ [k]) := by
          rw [lput_keys, ce]
          split
          · rename_i q
            exact ⟨.inl, fun z => z.elim id fun z => z ▸ q⟩
          · rw [List.mem_append, List.mem_singleton]
        rw [km]
        constructor
        · rintro ((z | z) | ⟨x, a, b⟩)
          · exact .inl z
          · exact .inr ⟨k, List.mem_cons_self, c1, by rw [c2]; rfl, z⟩
          · exact .inr ⟨x, List.mem_cons_of_mem _ a, b⟩
        · rintro (z | ⟨x, a, b, c, d⟩)
          · exact .inl (.inl z)
          · rcases List.mem_cons.mp a with rfl | a
            · exact .inl (.inr d)
            · exact .inr ⟨x, a, b, c, d⟩
theorem next_ent (hp : ∀ p ∈ ps, p.length = n + 1) (hz : ∀ p ∈ ps, szR (n + 1) 4 p) {r : Nat} : ∀ (L : Lvl) {D : Lvl}, (∀ x ∈ L, Ent n ps r x) → (keysL D).Nodup → (∀ x ∈ D, Ent n ps (r + 1) x) →
    (keysL (L.foldl (lvIn n ps) D)).Nodup ∧ (∀ x ∈ L.foldl (lvIn n ps) D, Ent n ps (r + 1) x) ∧ ∀ f, f ∈ keysL (L.foldl (lvIn n ps) D) ↔ f ∈ keysL D ∨ ∃ e ∈ L, ∃ k, k < ps.length ∧ k ∉ e.1 ∧ (firstNZ n (restP e.2 (ps.getD k []))).isSome = true ∧ f = clL n ps (e.1 ++ [k])
  | [], D, _, h1, h2 => ⟨h1, h2, fun f => ⟨.inl, fun z => z.elim id fun ⟨_, m, _⟩ => nomatch m⟩⟩
  | e :: L, D, hL, h1, h2 => by
    rw [List.foldl_cons]
    obtain ⟨a, b, c⟩ := step_ent hp hz (hL e List.mem_cons_self) (List.range ps.length) (fun k hk => List.mem_range.mp hk) h1 h2
    have ih := next_ent hp hz L (D := lvIn n ps D e) (fun x hx => hL x (List.mem_cons_of_mem _ hx)) a b
    refine ⟨ih.1, ih.2.1, fun f => (ih.2.2 f).trans ?_⟩
    have c' : f ∈ keysL (lvIn n ps D e) ↔ _ := c f
    rw [c']
    constructor
    · rintro ((z | ⟨k, z1, z2⟩) | ⟨x, y, z⟩)
      · exact .inl z
      · exact .inr ⟨e, List.mem_cons_self, k, List.mem_range.mp z1, z2⟩
      · exact .inr ⟨x, List.mem_cons_of_mem _ y, z⟩
    · rintro (z | ⟨x, y, k, z1, z2⟩)
      · exact .inl (.inl z)
      · rcases List.mem_cons.mp y with rfl | y
        · exact .inl (.inr ⟨k, List.mem_range.mpr z1, z2⟩)
        · exact .inr ⟨x, y, k, z1, z2⟩
theorem all_ent (hp : ∀ p ∈ ps, p.length = n + 1) (hz : ∀ p ∈ ps, szR (n + 1) 4 p) : ∀ r, (keysL (lvAll n ps r)).Nodup ∧ ∀ x ∈ lvAll n ps r, Ent n ps r x
  | 0 => by
    have e : clP [] ps = clL n ps [] := clP_eq hp (fun _ h => absurd h List.not_mem_nil) .nil fun v => Iff.rfl
    refine ⟨by simp [lvAll, keysL], fun x hx => ?_⟩
    rw [List.mem_singleton.mp hx]
    refine ⟨.nil, fun v => ?_, ?_, rfl, .nil⟩
    · show _ ↔ RsI (pickK ps (clP [] ps)) v
      rw [e]
      exact (cl_rs hp (fun _ h => absurd h List.not_mem_nil) v).symm
    · show clP [] ps = clL n ps (clP [] ps)
      rw [e]
      exact (cl_cl hp (fun _ h => absurd h List.not_mem_nil)).symm
  | r + 1 => by
    obtain ⟨a, b⟩ := all_ent hp hz r
    have := next_ent hp hz (lvAll n ps r) (D := []) b (by simp [keysL]) (fun _ h => absurd h List.not_mem_nil)
    exact ⟨this.1, this.2.1⟩
theorem all_mem (hp : ∀ p ∈ ps, p.length = n + 1) (hz : ∀ p ∈ ps, szR (n + 1) 4 p) : ∀ (r : Nat) (f : List Nat), f ∈ keysL (lvAll n ps r) ↔ ∃ ks : List Nat, (∀ k ∈ ks, k < ps.length) ∧ MetR n ((pickK ps ks).map fI) ∧ rankL (n + 1) (pickK ps ks) = r ∧ f = clL n ps ks
  | 0, f => by
    have e : clP [] ps = clL n ps [] := clP_eq hp (fun _ h => absurd h List.not_mem_nil) .nil fun v => Iff.rfl
    have k0 : f ∈ keysL (lvAll n ps 0) ↔ f = clL n ps [] := by
      show f ∈ [clP [] ps] ↔ _
      rw [List.mem_singleton, e]
    rw [k0]
    constructor
    · exact fun h => ⟨[], (fun _ h => absurd h List.not_mem_nil), Sp0.nil.met, rfl, h⟩
    · rintro ⟨ks, hk, _, hr, rfl⟩
      obtain ⟨a, b⟩ := rankS_sf (pickK_len1 hp hk)
      have z : rankS (n + 1) (pickK ps ks) = [] := List.eq_nil_of_length_eq_zero hr
      rw [z] at b
      exact cl_same hp hk (fun _ h => absurd h List.not_mem_nil) fun v => (b v).symm
  | r + 1, f => by
    obtain ⟨nd, en⟩ := all_ent hp hz r
    have nx := (next_ent hp hz (lvAll n ps r) (D := []) en (by simp [keysL]) (fun _ h => absurd h List.not_mem_nil)).2.2 f
    refine Iff.trans nx ?_
    constructor
    · rintro (z | ⟨e, he, k, hk, _, hs, rfl⟩)
      · cases z
      · obtain ⟨p, c⟩ := Option.isSome_iff_exists.mp hs
        obtain ⟨en2, ce, mt⟩ := ent_next hp hz (en e he) hk c
        have lt2 : ∀ x ∈ e.1 ++ [k], x < ps.length := fun x hx => by
          rcases List.mem_append.mp hx with z | z
          · exact (en e he).lt x z
          · rw [List.mem_singleton.mp z]; exact hk
        refine ⟨e.1 ++ [k], lt2, mt, ?_, rfl⟩
        have rs : ∀ v, RsO (e.2 ++ [(p, restP e.2 (ps.getD k []))]) v ↔ RsI (pickK ps (e.1 ++ [k])) v := fun v => by
          refine (en2.rs v).trans ?_
          show RsI (pickK ps (clP _ ps)) v ↔ _
          rw [ce]
          exact cl_rs hp lt2 v
        rw [← span_rk (pickK_len1 hp lt2) en2.sp.sf rs]
        exact en2.len
    · rintro ⟨ks, hk, mt, hr, rfl⟩
      right
      have go : ∀ (m : Nat) (ks : List Nat), ks.length = m → (∀ k ∈ ks, k < ps.length) → MetR n ((pickK ps ks).map fI) → rankL (n + 1) (pickK ps ks) = r + 1 → ∃ e ∈ lvAll n ps r, ∃ k, k < ps.length ∧ k ∉ e.1 ∧ (firstNZ n (restP e.2 (ps.getD k []))).isSome = true ∧ clL n ps ks = clL n ps (e.1 ++ [k]) := by
        intro m
        induction m with
        | zero =>
          intro ks hl _ _ hr
          rw [List.eq_nil_of_length_eq_zero hl] at hr
          exact absurd hr (by simp [pickK, rankL, rankS])
        | succ m ih =>
          intro ks hl hk mt hr
          obtain ⟨ks0, k, rfl⟩ : ∃ a b, ks = a ++ [b] := ⟨ks.dropLast, ks.getLast (fun z => by rw [z] at hl; cases hl), (List.dropLast_concat_getLast _).symm⟩
          have hk0 : ∀ x ∈ ks0, x < ps.length := fun x hx => hk x (List.mem_append_left _ hx)
          have hkk : k < ps.length := hk k (List.mem_append_right _ List.mem_cons_self)
          have lr := row_at hp hkk
          have mt0 : MetR n ((pickK ps ks0).map fI) := fun v hv => mt v (pick_sub (fun x hx => List.mem_append_left _ hx) hv)
          by_cases c : RsI (pickK ps ks0) (fI (ps.getD k []))
          · have hr0 : rankL (n + 1) (pickK ps ks0) = r + 1 := by rw [← hr, pick_app]; exact ((rank_in (pickK_len1 hp hk0) lr).mpr c).symm
            obtain ⟨e, he, k', h1, h2, h3, h4⟩ := ih ks0 (by rw [List.length_append] at hl; simpa using hl) hk0 mt0 hr0
            refine ⟨e, he, k', h1, h2, h3, ?_⟩
            rw [← h4]
            refine cl_same hp hk hk0 fun v => ⟨pick_rs fun x hx => ?_, pick_sub fun x hx => List.mem_append_left _ hx⟩
            rcases List.mem_append.mp hx with z | z
            · exact pick_has z
            · rw [List.mem_singleton.mp z]; exact c
          · have hr0 : rankL (n + 1) (pickK ps ks0) = r := by
              have := rank_out (pickK_len1 hp hk0) lr c
              rw [← pick_app, hr] at this
              omega
            have ih2 := (all_mem hp hz r (clL n ps ks0)).mpr ⟨ks0, hk0, mt0, hr0, rfl⟩
            obtain ⟨e, he, e1⟩ := List.mem_map.mp ih2
            have ent := en e he
            have ers : ∀ v, RsO e.2 v ↔ RsI (pickK ps ks0) v := fun v => by
              refine (ent.rs v).trans ?_
              rw [e1]
              exact cl_rs hp hk0 v
            refine ⟨e, he, k, hkk, ?_, ?_, ?_⟩
            · rw [e1]
              exact fun z => c ((clL_mem hp hk0).mp z).2
            · cases q : firstNZ n (restP e.2 (ps.getD k [])) with
              | some p => rfl
              | none =>
                exfalso
                have z0 := nz_none q
                obtain ⟨c1, hc1, es⟩ := short_f lr
                obtain ⟨a, ha, u, hu, ee⟩ := rest_f ent.sp.sf (row := shortI (ps.getD k [])) (by rw [shortI_len]; exact lr)
                have hin : RsI (pickK ps (ks0 ++ [k])) (fI (restP e.2 (ps.getD k []))) := by
                  show Rs _ (fI (restL e.2 (shortI (ps.getD k []))))
                  rw [ee]
                  exact (pick_sub (fun x hx => List.mem_append_left _ hx) ((ers u).mp hu)).comb a ((rs_scale hc1 es).mpr (pick_has (List.mem_append_right _ List.mem_cons_self)))
                have zn := mt _ hin fun i hi => castQ.mpr (z0 i hi)
                apply c
                rw [← ers, ← restP_iff ent.sp.sf lr]
                refine (all0_f (restP_len lr)).mp fun i hi => ?_
                by_cases e2 : i = n
                · rw [e2]; exact castQ.mp zn
                · exact z0 i (by omega)
            · have lt2 : ∀ x ∈ e.1 ++ [k], x < ps.length := fun x hx => by
                rcases List.mem_append.mp hx with z | z
                · exact ent.lt x z
                · rw [List.mem_singleton.mp z]; exact hkk
              refine cl_same hp hk lt2 fun v => ?_
              rw [pick_app, pick_app]
              show Rs ((pickK ps ks0 ++ [ps.getD k []]).map fI) v ↔ Rs ((pickK ps e.1 ++ [ps.getD k []]).map fI) v
              rw [List.map_append, List.map_append]
              exact rs_app (fun v => (ers v).symm.trans (ent.rs v)) _ v
      exact go ks.length ks rfl hk mt hr
end
end Q
namespace Q
section
variable {n : Nat} {ps : List (List Int)}
theorem subs_filter (p : Nat → Bool) : ∀ c, (List.range c).filter p ∈ subsL c
  | 0 => List.mem_singleton.mpr rfl
  | c + 1 => by
    rw [List.range_succ, List.filter_append]
    show _ ∈ subsL c ++ (subsL c).map fun one => one ++ [c]
    by_cases h : p c = true
    · rw [List.filter_cons_of_pos h]
      exact List.mem_append_right _ (List.mem_map.mpr ⟨_, subs_filter p c, rfl⟩)
    · rw [List.filter_cons_of_neg h]
      show (List.range c).filter p ++ [] ∈ _
      rw [List.append_nil]
      exact List.mem_append_left _ (subs_filter p c)
def dedW (n : Nat) (ps : List (List Int)) (F : List (List Nat)) (ks : List Nat) : List (List Nat) := if metL n ps ks = true then (if clL n ps ks ∈ F then F else F ++ [clL n ps ks]) else F
def flW (n : Nat) (ps : List (List Int)) : List (List Nat) := (subsL ps.length).foldl (dedW n ps) []
theorem dedW_go : ∀ (L F : List (List Nat)), F.Nodup → (L.foldl (dedW n ps) F).Nodup ∧ ∀ x, x ∈ L.foldl (dedW n ps) F ↔ x ∈ F ∨ ∃ ks ∈ L, metL n ps ks = true ∧ x = clL n ps ks
  | [], F, h => ⟨h, fun x => ⟨.inl, fun z => z.elim id fun ⟨_, m, _⟩ => nomatch m⟩⟩
  | ks :: L, F, h => by
    rw [List.foldl_cons]
    have nd : (dedW n ps F ks).Nodup := by
      unfold dedW
      split
      · split
        · exact h
        · rename_i c
          exact List.nodup_append.mpr ⟨h, by simp, fun a ha b hb => by rw [List.mem_singleton.mp hb]; exact fun z => c (z ▸ ha)⟩
      · exact h
    obtain ⟨a, b⟩ := dedW_go L (dedW n ps F ks) nd
    refine ⟨a, fun x => (b x).trans ?_⟩
    have km : x ∈ dedW n ps F ks ↔ x ∈ F ∨ (metL n ps ks = true ∧ x = clL n ps ks) := by
      unfold dedW
      split
      · rename_i m
        split
        · rename_i c
          exact ⟨.inl, fun z => z.elim id fun z => z.2 ▸ c⟩
        · rw [List.mem_append, List.mem_singleton]
          exact ⟨fun z => z.imp id fun z => ⟨m, z⟩, fun z => z.imp id fun z => z.2⟩
      · rename_i m
        exact ⟨.inl, fun z => z.elim id fun z => absurd z.1 m⟩
    rw [km]
    constructor
    · rintro ((z | z) | ⟨y, m, z⟩)
      · exact .inl z
      · exact .inr ⟨ks, List.mem_cons_self, z⟩
      · exact .inr ⟨y, List.mem_cons_of_mem _ m, z⟩
    · rintro (z | ⟨y, m, z⟩)
      · exact .inl (.inl z)
      · rcases List.mem_cons.mp m with rfl | m
        · exact .inl (.inr z)
        · exact .inr ⟨y, m, z⟩
def isFl (n : Nat) (ps : List (List Int)) (f : List Nat) : Prop := (∀ k ∈ f, k < ps.length) ∧ MetR n ((pickK ps f).map fI) ∧ f = clL n ps f
theorem fl_of (hp : ∀ p ∈ ps, p.length = n + 1) {ks : List Nat} (hk : ∀ k ∈ ks, k < ps.length) (h : MetR n ((pickK ps ks).map fI)) : isFl n ps (clL n ps ks) :=
  ⟨cl_lt, (met_same hp (cl_rs hp hk)).mpr h, (cl_cl hp hk).symm⟩
theorem flW_mem (hp : ∀ p ∈ ps, p.length = n + 1) {f : List Nat} : f ∈ flW n ps ↔ isFl n ps f := by
  unfold flW
  rw [(dedW_go (subsL ps.length) [] List.nodup_nil).2 f]
  constructor
  · rintro (z | ⟨ks, m, mt, rfl⟩)
    · cases z
    · have hk := (subs_mem m).2.1
      exact fl_of hp hk ((met_iff hp hk).mp mt)
  · rintro ⟨hk, mt, e⟩
    refine .inr ⟨f, ?_, (met_iff hp hk).mpr mt, e⟩
    rw [e]
    exact subs_filter _ _
theorem lv_mem (hp : ∀ p ∈ ps, p.length = n + 1) (hz : ∀ p ∈ ps, szR (n + 1) 4 p) {r : Nat} {f : List Nat} : f ∈ keysL (lvAll n ps r) ↔ isFl n ps f ∧ rankL (n + 1) (pickK ps f) = r := by
  rw [all_mem hp hz]
  constructor
  · rintro ⟨ks, hk, mt, hr, rfl⟩
    refine ⟨fl_of hp hk mt, ?_⟩
    rw [← hr]
    exact rank_same (pickK_len1 hp cl_lt) (pickK_len1 hp hk) (cl_rs hp hk)
  · rintro ⟨⟨hk, mt, e⟩, hr⟩
    exact ⟨f, hk, mt, hr, e⟩
theorem met_rank (hp : ∀ p ∈ ps, p.length = n + 1) {ks : List Nat} (hk : ∀ k ∈ ks, k < ps.length) (h : MetR n ((pickK ps ks).map fI)) : rankL n (pickK ps ks) = rankL (n + 1) (pickK ps ks) := of_decide_eq_true ((met_iff hp hk).mpr h)
theorem rank_n (hp : ∀ p ∈ ps, p.length = n + 1) {ks : List Nat} (hk : ∀ k ∈ ks, k < ps.length) : rankL n (pickK ps ks) ≤ n := rank_le (Nat.le_succ n) (pickK_len1 hp hk)
def lvS (n : Nat) (ps : List (List Int)) (r : Nat) : List (List Nat) := (keysL (lvAll n ps r)).mergeSort lE
def webP (n : Nat) (ps : List (List Int)) : List (List Nat) := (List.range (n + 1)).flatMap (lvS n ps)
theorem lvS_mem {r : Nat} {f : List Nat} : f ∈ lvS n ps r ↔ f ∈ keysL (lvAll n ps r) := (List.mergeSort_perm _ _).mem_iff
theorem lvS_nodup (hp : ∀ p ∈ ps, p.length = n + 1) (hz : ∀ p ∈ ps, szR (n + 1) 4 p) (r : Nat) : (lvS n ps r).Nodup := (List.mergeSort_perm _ _).nodup_iff.mpr (all_ent hp hz r).1
theorem webP_mem (hp : ∀ p ∈ ps, p.length = n + 1) (hz : ∀ p ∈ ps, szR (n + 1) 4 p) {f : List Nat} : f ∈ webP n ps ↔ isFl n ps f := by
  unfold webP
  rw [List.mem_flatMap]
  constructor
  · rintro ⟨r, _, h⟩
    exact ((lv_mem hp hz).mp (lvS_mem.mp h)).1
  · intro h
    refine ⟨rankL (n + 1) (pickK ps f), List.mem_range.mpr ?_, lvS_mem.mpr ((lv_mem hp hz).mpr ⟨h, rfl⟩)⟩
    have := rank_n hp h.1
    rw [met_rank hp h.1 h.2.1] at this
    omega
abbrev RF := Nat × List Nat
def rE (a b : RF) : Bool := if a.1 = b.1 then lE a.2 b.2 else decide (a.1 < b.1)
theorem rE_tot : PySem.W.TotalLe rE where
  total a b := by
    unfold rE
    by_cases c : a.1 = b.1
    · rw [if_pos c, if_pos c.symm]; exact lE_tot.total _ _
    · rw [if_neg c, if_neg fun z => c z.symm]
      rcases Nat.lt_or_gt_of_ne c with h | h
      · simp [h]
      · simp [h]
  trans a b c h1 h2 := by
    unfold rE at *
    by_cases c1 : a.1 = b.1
    · rw [if_pos c1] at h1
      by_cases c2 : b.1 = c.1
      · rw [if_pos c2] at h2
        rw [if_pos (c1.trans c2)]
        exact lE_tot.trans _ _ _ h1 h2
      · rw [if_neg c2] at h2
        rw [if_neg (c1 ▸ c2), c1]
        exact h2
    · rw [if_neg c1] at h1
      have l1 := of_decide_eq_true h1
      by_cases c2 : b.1 = c.1
      · rw [if_neg (c2 ▸ c1), ← c2]; exact h1
      · rw [if_neg c2] at h2
        have l2 := of_decide_eq_true h2
        rw [if_neg (by omega)]
        exact decide_eq_true (by omega)
theorem rE_anti {a b : RF} (h1 : rE a b = true) (h2 : rE b a = true) : a = b := by
  unfold rE at *
  by_cases c : a.1 = b.1
  · rw [if_pos c] at h1
    rw [if_pos c.symm] at h2
    exact Prod.ext c (lE_anti h1 h2)
  · rw [if_neg c] at h1
    rw [if_neg fun z => c z.symm] at h2
    have := of_decide_eq_true h1
    have := of_decide_eq_true h2
    omega
theorem sort_isR {l m : List RF} (hp : m.Perm l) (hs : m.Pairwise fun a b => rE a b = true) : l.mergeSort rE = m :=
  ((List.mergeSort_perm l rE).trans hp.symm).eq_of_pairwise (fun a b _ _ h1 h2 => rE_anti h1 h2) (PySem.W.sort_pairwise rE_tot l) hs
def rkF (n : Nat) (ps : List (List Int)) (f : List Nat) : RF := (rankL n (pickK ps f), f)
def webL (n : Nat) (ps : List (List Int)) : List (List Nat) := (((flW n ps).map (rkF n ps)).mergeSort rE).map fun p => p.2
theorem perm_of {α : Type} [DecidableEq α] {l m : List α} (h1 : l.Nodup) (h2 : m.Nodup) (h : ∀ x, x ∈ l ↔ x ∈ m) : l.Perm m := (List.perm_ext_iff_of_nodup h1 h2).mpr h
theorem web_eq (hp : ∀ p ∈ ps, p.length = n + 1) (hz : ∀ p ∈ ps, szR (n + 1) 4 p) : webL n ps = webP n ps := by
  have rk : ∀ r, ∀ f ∈ lvS n ps r, rankL n (pickK ps f) = r := fun r f hf => by
    obtain ⟨a, b⟩ := (lv_mem hp hz).mp (lvS_mem.mp hf)
    rw [met_rank hp a.1 a.2.1, b]
  have pw : ((webP n ps).map (rkF n ps)).Pairwise fun a b => rE a b = true := by
    rw [List.pairwise_map]
    unfold webP
    rw [List.pairwise_flatMap]
    refine ⟨fun r _ => ?_, ?_⟩
    · have srt : (lvS n ps r).Pairwise fun a b => lE a b = true := PySem.W.sort_pairwise lE_tot _
      refine srt.imp_of_mem fun {a b} ha hb h => ?_
      unfold rE rkF
      rw [rk r a ha, rk r b hb, if_pos rfl]
      exact h
    · refine List.pairwise_lt_range.imp fun {a b} hab x hx y hy => ?_
      unfold rE rkF
      rw [rk a x hx, rk b y hy, if_neg (by omega)]
      exact decide_eq_true hab
  have nd : (webP n ps).Nodup := by
    have : ((webP n ps).map (rkF n ps)).Pairwise fun a b => rE a b = true := pw
    unfold webP
    refine List.pairwise_flatMap.mpr ⟨fun r _ => lvS_nodup hp hz r, ?_⟩
    refine List.pairwise_lt_range.imp fun {a b} hab x hx y hy e => ?_
    have h1 := rk a x hx
    have h2 := rk b y hy
    rw [e] at h1
    omega
  have pm : ((webP n ps).map (rkF n ps)).Perm ((flW n ps).map (rkF n ps)) := by
    refine List.Perm.map _ (perm_of nd (dedW_go (subsL ps.length) [] List.nodup_nil).1 fun x => ?_)
    rw [webP_mem hp hz]
    exact (flW_mem hp).symm
  unfold webL
  rw [sort_isR pm pw, List.map_map]
  have : ((fun p : RF => p.2) ∘ rkF n ps) = id := rfl
  rw [this, List.map_id]
end
end Q
namespace Q
open DL PySem PySem.Spec PyProof.Rows
theorem short_gcd {xs : List Int} {a : Int} (ha : a ∈ xs) (h : a ≠ 0) : gcdL (shortI xs) 0 = 1 := by
  have := gcdL_pos ha h
  unfold shortI
  split
  · omega
  · exact gcd_primL this
theorem short_pl {n : Nat} {row : List Int} {z : Int} (hl : row.length = n) (hr : ∀ a ∈ row, -2 ≤ a ∧ a ≤ 2) (hz : -2 ≤ z ∧ z ≤ 2) (hn : ∃ a ∈ row, a ≠ 0) : isPl n (shortI (row ++ [z])) = true ∧ szR (n + 1) 2 (shortI (row ++ [z])) := by
  obtain ⟨a, ha, h0⟩ := hn
  have ha' : a ∈ row ++ [z] := List.mem_append_left _ ha
  have len : (shortI (row ++ [z])).length = n + 1 := by rw [shortI_len, List.length_append, hl]; rfl
  have sm : ∀ b ∈ shortI (row ++ [z]), b.natAbs < 2 ^ 2 := shortI_sz fun b hb => by
    rcases List.mem_append.mp hb with q | q
    · have := hr b q; omega
    · rw [List.mem_singleton.mp q]; omega
  refine ⟨?_, len, sm⟩
  unfold isPl
  rw [len, short_gcd ha' h0]
  have c1 : (shortI (row ++ [z])).all (fun a => decide (a.natAbs ≤ 1000)) = true := List.all_eq_true.mpr fun b hb => decide_eq_true (by have := sm b hb; omega)
  have c2 : ((shortI (row ++ [z])).take n).any (fun a => decide (a ≠ 0)) = true := by
    rw [List.any_eq_true]
    have gp := gcdL_pos ha' h0
    unfold shortI
    split
    · refine ⟨a, ?_, decide_eq_true h0⟩
      rw [List.take_left' hl]; exact ha
    · refine ⟨a.fdiv ((gcdL (row ++ [z]) 0 : Nat) : Int), ?_, decide_eq_true (primL_ne ha' h0)⟩
      rw [← List.map_take, List.take_left' hl]
      exact List.mem_map_of_mem ha
  rw [c1, c2]
  simp
section
variable {n most : Nat} {c : Bool}
abbrev Elr (n most : Nat) (c : Bool) (l : List Int) (R : D) (o5 o6 o7 o8 o9 : Option D) : En := [some (dl l), some (.int (n : Nat)), some (.int (most : Nat)), some (.bl c), some R, o5, o6, o7, o8, o9]
theorem any_neR (row : List Int) : (row.any fun n => n != 0) = decide (∃ a ∈ row, a ≠ 0) := by
  rw [Bool.eq_iff_iff]
  simp
theorem lrB (h1 : 1 ≤ n) (hn : n ≤ 3) (l : List Int) (ps : List (List Int)) (o5 o6 o8 : Option D) (hps : ps.length ≤ 1000) : ∃ (l' : List Int) (p : List Int) (o8' : Option D), isPl n p = true ∧ szR (n + 1) 2 p ∧
    m_law_rows_b2 (Elr n most c l (.lst (ps.map pl)) o5 o6 none o8 none) = .nx (Elr n most c l' (.lst ((if p ∉ ps ∧ negL p ∉ ps then ps ++ [p] else ps).map pl)) o5 (some (pl p)) none o8' none) := by
  have sz := szv
  -- the row
  obtain ⟨row, l1, e1, hl, hp⟩ := mLc_io (i := 7) (me := m_law_rows_e0) (P := fun a : Int => -2 ≤ a ∧ a ≤ 2) (enc := D.int) (mi := mItN gRange1 (mCons (mVar 1) mNil)) (E := fun l o => Elr n most c l (.lst (ps.map pl)) o5 none o o8 none) (ρ := Elr n most c l (.lst (ps.map pl)) o5 none none o8 none) (l := l) (o := none) (ds := (List.range n).map fun i => D.int (i : Nat))
    (by
      generalize D.lst (ps.map pl) = R at *
      simp -implicitDefEqProofs [range1 (n := n) (by omega), -gRange1_i]) (by rw [List.length_map, List.length_range]; omega) (fun _ _ _ => rfl) (fun l o => (by show 7 < 10; decide)) rfl (fun l d => by
      obtain ⟨r1, r2⟩ := fm_rng (drawI l) (m := 5) (by decide)
      refine ⟨(drawI l).fmod 5 - 2, l.dropLast, ⟨by omega, by omega⟩, ?_⟩
      generalize D.lst (ps.map pl) = R at *
      simp -implicitDefEqProofs [m_law_rows_e0, io_next, gMod_p])
  rw [List.length_map, List.length_range] at hl
  have s1 : msOwn 6 (mLc [7] (mItN gRange1 (mCons (mVar 1) mNil)) (mgName 7) mYes m_law_rows_e0) (Elr n most c l (.lst (ps.map pl)) o5 none none o8 none) = .nx (Elr n most c l1 (.lst (ps.map pl)) o5 (some (dl row)) none o8 none) := by
    generalize D.lst (ps.map pl) = R at *
    generalize mLc [7] (mItN gRange1 (mCons (mVar 1) mNil)) (mgName 7) mYes m_law_rows_e0 = mL at *
    simp -implicitDefEqProofs [e1]
  -- no row of noughts
  have s2 : ∃ (row2 l2 : List Int), (msIf (mNotT (mTru (mNO gAnyI 6))) (msAsg (mK (.int 1)) (mgSub 6 (m2 gMod (mN gInt (mCons (mCallIo Q.F_law_next 0 mNil) mNil)) (mVar 1)))) msNil) (Elr n most c l1 (.lst (ps.map pl)) o5 (some (dl row)) none o8 none) = .nx (Elr n most c l2 (.lst (ps.map pl)) o5 (some (dl row2)) none o8 none) ∧ row2.length = n ∧ (∀ a ∈ row2, -2 ≤ a ∧ a ≤ 2) ∧ ∃ a ∈ row2, a ≠ 0 := by
    have ga : gAnyI [dl row] = some (.bl (decide (∃ a ∈ row, a ≠ 0))) := by
      show (DL.asInts (row.map D.int)).map _ = _
      rw [← any_neR, DL.asInts_map]
      rfl
    by_cases h : ∃ a ∈ row, a ≠ 0
    · refine ⟨row, l1, ?_, hl, hp, h⟩
      rw [decide_eq_true h] at ga
      generalize D.lst (ps.map pl) = R at *
      simp -implicitDefEqProofs [mNO, getO_ap, ga]
    · rw [decide_eq_false h] at ga
      obtain ⟨r1, r2⟩ := fm_rng (drawI l1) (m := (n : Int)) (by omega)
      obtain ⟨k, hk⟩ : ∃ k : Nat, (drawI l1).fmod (n : Int) = (k : Int) := ⟨((drawI l1).fmod (n : Int)).toNat, by omega⟩
      have gm := gMod_p (drawI l1) (m := (n : Int)) (by omega)
      rw [hk] at gm
      have gs := gSet_at (xs := row.map D.int) (j := k) (v := .int 1) (by rw [List.length_map]; omega)
      rw [show (row.map D.int).set k (.int 1) = (row.set k 1).map D.int by rw [List.map_set]] at gs
      refine ⟨row.set k 1, l1.dropLast, ?_, by rw [List.length_set]; exact hl, fun a ha => ?_, 1, ?_, by decide⟩
      · generalize D.lst (ps.map pl) = R at *
        simp -implicitDefEqProofs [mNO, mgSub, getO_ap, ga, io_next, gm, gs]
      · rcases List.mem_or_eq_of_mem_set ha with q | q
        · exact hp a q
        · rw [q]; omega
      · exact List.mem_set (by omega) 1
  obtain ⟨row2, l2, s2, hl2, hp2, hn2⟩ := s2
  -- the last entry
  have s3 : ∃ (z : Int) (l3 : List Int), (msAsg (mIf (mTru (mVar 3)) (mK (.int 0)) (m2 gSub (m2 gMod (mN gInt (mCons (mCallIo Q.F_law_next 0 mNil) mNil)) (mK (.int 4))) (mK (.int 1)))) (mgName 8)) (Elr n most c l2 (.lst (ps.map pl)) o5 (some (dl row2)) none o8 none) = .nx (Elr n most c l3 (.lst (ps.map pl)) o5 (some (dl row2)) none (some (.int z)) none) ∧ -2 ≤ z ∧ z ≤ 2 := by
    cases c with
    | true =>
      refine ⟨0, l2, ?_, by omega, by omega⟩
      generalize D.lst (ps.map pl) = R at *
      simp -implicitDefEqProofs
    | false =>
      obtain ⟨r1, r2⟩ := fm_rng (drawI l2) (m := 4) (by decide)
      refine ⟨(drawI l2).fmod 4 - 1, l2.dropLast, ?_, by omega, by omega⟩
      generalize D.lst (ps.map pl) = R at *
      simp -implicitDefEqProofs [io_next, gMod_p]
  obtain ⟨z, l3, s3, hz⟩ := s3
  obtain ⟨i1, i2⟩ := short_pl hl2 hp2 hz hn2
  have vs := fun ρ => v_lshort (row := row2 ++ [z]) (Sq.lst _) (by simp; omega) (fun a ha => by
    rcases List.mem_append.mp ha with q | q
    · exact sm_up (i := 2) (by have := hp2 a q; omega) (by decide)
    · rw [List.mem_singleton.mp q]; exact sm_up (i := 2) (by omega) (by decide)) ρ
  have ad : gAdd (dl row2) (.lst [.int z]) = some (.lst ((row2 ++ [z]).map .int)) := by
    show (if _ then some (D.lst (row2.map D.int ++ [D.int z])) else none) = _
    rw [if_pos (by simp; omega), List.map_append]
    rfl
  generalize shortI (row2 ++ [z]) = p at *
  refine ⟨l3, p, some (.int z), i1, i2, ?_⟩
  have s4 : msAsg (mCall Q.F_law_short (mCons (m2 gAdd (mVar 6) (mN gLst (mCons (mVar 8) mNil))) mNil)) (mgName 6) (Elr n most c l3 (.lst (ps.map pl)) o5 (some (dl row2)) none (some (.int z)) none) = .nx (Elr n most c l3 (.lst (ps.map pl)) o5 (some (pl p)) none (some (.int z)) none) := by
    generalize D.lst (ps.map pl) = R at *
    generalize D.lst ((row2 ++ [z]).map .int) = X at *
    generalize pl p = P at *
    simp -implicitDefEqProofs [ad, mCall_R, vs, show 1 ≤ sizeLine by omega]
  have e1 := gNotIn_pd (n := 1) (m := 1) (a := pl p) (c := .lst (ps.map pl)) (P := p ∈ ps) (.inl rfl) (pd_ints 0 _) (pd_pls ps) (by omega) (by omega) pl_memL
  have e2 := gNotIn_pd (n := 1) (m := 1) (a := pl (negL p)) (c := .lst (ps.map pl)) (P := negL p ∈ ps) (.inl rfl) (pd_ints 0 _) (pd_pls ps) (by omega) (by omega) pl_memL
  have e3 : mLc [9] (mIter (mVar 6)) (mgName 9) mYes m_law_rows_e1 (Elr n most c l3 (.lst (ps.map pl)) o5 (some (pl p)) none (some (.int z)) none) = .ok (.lst (p.map fun a => .int (0 - a))) (Elr n most c l3 (.lst (ps.map pl)) o5 (some (pl p)) none (some (.int z)) none) := by
    refine mLc_map (as := p) (enc := .int) (st := fun a => Elr n most c l3 (.lst (ps.map pl)) o5 (some (pl p)) none (some (.int z)) (some (.int a))) (f := fun a => .int (0 - a)) ?_ (by have := i2.1; omega) (fun _ => rfl) (fun a ha => rfl) (fun a ha => ?_)
    · simp [pl, gIter]
    · generalize D.lst (ps.map pl) = R at *
      generalize pl p = P at *
      simp -implicitDefEqProofs [m_law_rows_e1]
  have e4 : gTuple [.lst (p.map fun a => D.int (0 - a))] = some (pl (negL p)) := by simp [gTuple, pl, negL]
  have e5 := gAppend_pl ps p hps
  simp only [Int.zero_sub] at e3 e4
  unfold m_law_rows_b2
  rw [msForget_ap]
  have w : (Elr n most c l (.lst (ps.map pl)) o5 o6 none o8 none).set 6 none = Elr n most c l (.lst (ps.map pl)) o5 none none o8 none := rfl
  rw [w, seq_nx s1, seq_nx s2, seq_nx s3, seq_nx s4]
  by_cases c1 : p ∈ ps
  · simp only [c1, decide_true, Bool.not_true] at e1
    simp -implicitDefEqProofs [m2B, evB, rdB, getO_ap, e1, c1]
  · simp only [c1, decide_false, Bool.not_false] at e1
    by_cases c2 : negL p ∈ ps
    · simp only [c2, decide_true, Bool.not_true] at e2
      simp -implicitDefEqProofs [m2B, evB, rdB, getO_ap, e1, c1, e3, e4, e2, c2]
    · simp only [c2, decide_false, Bool.not_false] at e2
      simp -implicitDefEqProofs [m2B, evB, rdB, getO_ap, e1, c1, e3, e4, e2, c2, e5]
theorem lrL (h1 : 1 ≤ n) (hn : n ≤ 3) : ∀ (ks : List Nat) (l : List Int) (ps : List (List Int)) (o5 o6 o8 : Option D), ps.length + ks.length ≤ 12 → okPls n ps = true → (∀ p ∈ ps, szR (n + 1) 2 p) →
    ∃ (l' : List Int) (ps' : List (List Int)) (o5' o6' o8' : Option D), loopL (mgName 5) m_law_rows_b2 (ks.map fun i => D.int (i : Nat)) (Elr n most c l (.lst (ps.map pl)) o5 o6 none o8 none) = .nx (Elr n most c l' (.lst (ps'.map pl)) o5' o6' none o8' none) ∧ ps'.length ≤ ps.length + ks.length ∧ okPls n ps' = true ∧ ∀ p ∈ ps', szR (n + 1) 2 p := by
  intro ks
  induction ks with
  | nil => exact fun l ps o5 o6 o8 _ h2 h3 => ⟨l, ps, o5, o6, o8, rfl, by simp, h2, h3⟩
  | cons k ks ih =>
    intro l ps o5 o6 o8 h h2 h3
    rw [List.length_cons] at h
    obtain ⟨l1, p, o8a, i1, i2, e⟩ := lrB (most := most) (c := c) h1 hn l ps (some (.int (k : Nat))) o6 o8 (by omega)
    have inv : ∃ ps1, (if p ∉ ps ∧ negL p ∉ ps then ps ++ [p] else ps) = ps1 ∧ ps1.length ≤ ps.length + 1 ∧ okPls n ps1 = true ∧ ∀ q ∈ ps1, szR (n + 1) 2 q := by
      by_cases c : p ∉ ps ∧ negL p ∉ ps
      · refine ⟨_, if_pos c, by simp, okPls_snoc h2 i1 c.1 c.2 (by omega), fun q hq => ?_⟩
        rcases List.mem_append.mp hq with z | z
        · exact h3 q z
        · rw [List.mem_singleton.mp z]; exact i2
      · exact ⟨_, if_neg c, by omega, h2, h3⟩
    obtain ⟨ps1, ep, hl, ok1, pi1⟩ := inv
    rw [ep] at e
    obtain ⟨l2, ps2, a, b, d, e2, hl2, ok2, pi2⟩ := ih l1 ps1 (some (.int (k : Nat))) (some (pl p)) o8a (by omega) ok1 pi1
    refine ⟨l2, ps2, a, b, d, ?_, by rw [List.length_cons]; omega, ok2, pi2⟩
    rw [List.map_cons]
    have g : mgName 5 (.int (k : Nat)) (Elr n most c l (.lst (ps.map pl)) o5 o6 none o8 none) = .ok () (Elr n most c l (.lst (ps.map pl)) (some (.int (k : Nat))) o6 none o8 none) := by rw [mgName_ap]; rfl
    rw [loop_step g e]
    exact e2
theorem v_lrows (h1 : 1 ≤ n) (hn : n ≤ 3) (hm : most ≤ 6) (l : List Int) : ∃ (ps : List (List Int)) (l' : List Int), F_law_rows [dl l, .int (n : Nat), .int (most : Nat)] = .rt (.lst (ps.map pl)) (dl l') ∧ Pk n ps ∧ okPls n ps = true := by
  have sz := szv
  obtain ⟨c, hc⟩ : ∃ c : Bool, c = decide ((drawI l).fmod 2 = 0) := ⟨_, rfl⟩
  obtain ⟨r1, r2⟩ := fm_rng (drawI l.dropLast) (m := (most : Int) + 1) (by omega)
  obtain ⟨k, hk⟩ : ∃ k : Nat, (drawI l.dropLast).fmod ((most : Int) + 1) = (k : Int) := ⟨((drawI l.dropLast).fmod ((most : Int) + 1)).toNat, by omega⟩
  obtain ⟨l2, ps, o5, o6, o8, e2, hl, ok, hpi⟩ := lrL (most := most) (c := c) h1 hn (List.range k) l.dropLast.dropLast [] none none none (by rw [List.length_range]; simp; omega) (okPls_nil n) (fun _ h => nomatch h)
  rw [List.length_range] at hl
  refine ⟨ps, l2, ?_, ⟨by simp at hl; omega, hn, fun p hp => (hpi p hp).up (by decide)⟩, ok⟩
  have e3 := range1 (n := k) (by omega)
  have e4 := gMod_p (drawI l.dropLast) (m := (most : Int) + 1) (by omega)
  rw [hk] at e4
  have e0 := gMod_p (drawI l) (m := 2) (by omega)
  have s0 : msAsg (m2 gEq (m2 gMod (mN gInt (mCons (mCallIo Q.F_law_next 0 mNil) mNil)) (mK (.int 2))) (mK (.int 0))) (mgName 3) [some (dl l), some (.int (n : Nat)), some (.int (most : Nat)), none, none, none, none, none, none, none] = .nx [some (dl l.dropLast), some (.int (n : Nat)), some (.int (most : Nat)), some (.bl c), none, none, none, none, none, none] := by
    simp -implicitDefEqProofs [io_next, e0, hc]
  have s2 : msFor (mItN gRange1 (mCons (m2 gMod (mN gInt (mCons (mCallIo Q.F_law_next 0 mNil) mNil)) (m2 gAdd (mVar 2) (mK (.int 1)))) mNil)) (mgName 5) m_law_rows_b2 (Elr n most c l.dropLast (.lst (([] : List (List Int)).map pl)) none none none none none) = .nx (Elr n most c l2 (.lst (ps.map pl)) o5 o6 none o8 none) := by
    generalize m_law_rows_b2 = B at *
    simp -implicitDefEqProofs [io_next, e4, e3, -gRange1_i]
    exact e2
  have : m_law_rows [some (dl l), some (.int (n : Nat)), some (.int (most : Nat)), none, none, none, none, none, none, none] = .rt (.lst (ps.map pl)) (Elr n most c l2 (.lst (ps.map pl)) o5 o6 none o8 none) := by
    unfold m_law_rows
    rw [seq_nx s0, msForget_ap]
    have w : [some (dl l.dropLast), some (D.int (n : Nat)), some (.int (most : Nat)), some (.bl c), none, none, none, none, none, none].set 4 none = [some (dl l.dropLast), some (D.int (n : Nat)), some (.int (most : Nat)), some (.bl c), none, none, none, none, none, none] := rfl
    have s1 : msOwn 4 (mN gLst mNil) [some (dl l.dropLast), some (.int (n : Nat)), some (.int (most : Nat)), some (.bl c), none, none, none, none, none, none] = .nx (Elr n most c l.dropLast (.lst (([] : List (List Int)).map pl)) none none none none none) := by
      simp -implicitDefEqProofs
    have s3 : msRetO 4 (Elr n most c l2 (.lst (ps.map pl)) o5 o6 none o8 none) = .rt (.lst (ps.map pl)) (Elr n most c l2 (.lst (ps.map pl)) o5 o6 none o8 none) := rfl
    rw [w, seq_nx s1, seq_nx s2, s3]
  exact runM_rt (n := 10) (np := 3) (dd := []) (ds := [dl l, .int (n : Nat), .int (most : Nat)]) rfl this
end
end Q
namespace Q
open DL PySem PySem.Spec PyProof.Rows
theorem loop_st {α σ : Type} {g : MG} {mb : MS} {enc : α → D} {st : σ → En → Prop} {step : σ → α → σ} : ∀ (xs : List α) (s : σ) (ρ : En),
    (∀ a ∈ xs, ∀ (s : σ) (ρ : En), st s ρ → ∃ ρ1, g (enc a) ρ = .ok () ρ1 ∧ ∃ ρ2, (mb ρ1 = .nx ρ2 ∨ mb ρ1 = .ct ρ2) ∧ st (step s a) ρ2) → st s ρ →
    ∃ ρ', loopL g mb (xs.map enc) ρ = .nx ρ' ∧ st (xs.foldl step s) ρ'
  | [], s, ρ, _, h => ⟨ρ, rfl, h⟩
  | a :: xs, s, ρ, hb, h => by
    obtain ⟨ρ1, h1, ρ2, h2, h3⟩ := hb a List.mem_cons_self s ρ h
    obtain ⟨ρ', e, h4⟩ := loop_st xs (step s a) ρ2 (fun b hm => hb b (List.mem_cons_of_mem _ hm)) h3
    refine ⟨ρ', ?_, h4⟩
    rw [List.map_cons]
    rcases h2 with h2 | h2
    · rw [loop_step h1 h2, e]
    · rw [loop_ct h1 h2, e]
section
variable {n : Nat} {ps : List (List Int)} {S : List Own}
def enR (ps : List (List Int)) (k : Nat) : D := .tup [.int (k : Nat), pl (ps.getD k [])]
theorem enum_pl (ps : List (List Int)) : gEnumS [.lst (ps.map pl)] = some ((List.range ps.length).map (enR ps)) := by
  show (gIter (D.lst (ps.map pl))).map enumL = _
  have : gIter (D.lst (ps.map pl)) = some (ps.map pl) := rfl
  rw [this, Option.map_some]
  congr 1
  unfold enumL
  refine List.ext_getElem (by simp) fun i h1 h2 => ?_
  have hi : i < ps.length := by simpa using h2
  simp [enR, List.getD_eq_getElem?_getD, hi]
theorem any_pl (r : List Int) : gAnyIT [pl r] = some (.bl (r.any fun a => decide (a ≠ 0))) := by
  show (asInts (r.map D.int)).map _ = _
  rw [asInts_map, Option.map_some]
  congr 2
  induction r with
  | nil => rfl
  | cons a r ih =>
    rw [List.any_cons, List.any_cons, ih]
    congr 1
    by_cases c : a = 0 <;> simp [c]
theorem v_closedP (hp : Pk n ps) (hS : SzF (n + 1) n 4 S) (hl : S.length ≤ 6) (ρ : En) : (Fclosed_v2 [SpD n S, .lst (ps.map pl)]).R ρ = .ok (tix (clP S ps)) ρ := by
  have n3 := hp.n3
  have l6 := hp.len
  have sz := szv
  have en := enum_pl ps
  have lc := mLc_filt (as := List.range ps.length) (enc := enR ps) (vs := [2, 3]) (g := mgTup 2 (mgCons (mgName 2) (mgCons (mgName 3) mgNil))) (mi := mItN gEnumS (mCons (mVar 1) mNil)) (mt := mclosed_v2_t0) (me := mVar 2) (ρ0 := [some (SpD n S), some (.lst (ps.map pl)), none, none]) (ρ := [some (SpD n S), some (.lst (ps.map pl)), none, none])
    (st := fun k => [some (SpD n S), some (.lst (ps.map pl)), some (.int (k : Nat)), some (pl (ps.getD k []))]) (f := fun k => .int (k : Nat)) (p := fun k => !(restP S (ps.getD k [])).any fun a => decide (a ≠ 0)) (by
      generalize (List.range ps.length).map (enR ps) = X at *
      generalize D.lst (ps.map pl) = L at *
      generalize SpD n S = SP at *
      simp -implicitDefEqProofs [en]) (by rw [List.length_range]; omega) (fun _ => rfl) (fun _ _ => rfl) (fun k hk => by
      have lt := List.mem_range.mp hk
      have hr : szR (n + 1) 4 (ps.getD k []) := hp.row _ (by rw [List.getD_eq_getElem?_getD, List.getElem?_eq_getElem lt]; exact List.getElem_mem lt)
      obtain ⟨o, v1⟩ := v_rest (by omega) hr hS hl zz4
      have m := meth_sp (tab := tb [("Span", FSpan_rest)]) (mn := "rest") (o := mVar 0) (args := mCons (mVar 3) mNil) (ρ := [some (SpD n S), some (.lst (ps.map pl)), some (.int (k : Nat)), some (pl (ps.getD k []))]) rfl rfl rfl (fun _ _ _ => rfl) v1
      have a := any_pl (restP S (ps.getD k []))
      unfold mclosed_v2_t0
      generalize mMeth (tb [("Span", FSpan_rest)]) "rest" (mVar 0) (mCons (mVar 3) mNil) = M at *
      generalize ((restP S (ps.getD k [])).any fun a => decide (a ≠ 0)) = b at *
      generalize pl (restP S (ps.getD k [])) = X at *
      generalize pl (ps.getD k []) = Y at *
      generalize D.lst (ps.map pl) = L at *
      generalize SpD n S = SP at *
      simp -implicitDefEqProofs [m, a]) (fun _ _ _ => rfl)
  have em : ((List.range ps.length).filter fun k => !(restP S (ps.getD k [])).any fun a => decide (a ≠ 0)).map (fun k => D.int (k : Nat)) = (clP S ps).map fun k => D.int (k : Nat) := rfl
  rw [em] at lc
  have gt : gTuple [.lst ((clP S ps).map fun k => D.int (k : Nat))] = some (tix (clP S ps)) := rfl
  have e : mclosed_v2 [some (SpD n S), some (.lst (ps.map pl)), none, none] = .rt (tix (clP S ps)) [some (SpD n S), some (.lst (ps.map pl)), none, none] := by
    unfold mclosed_v2
    generalize mLc [2, 3] (mItN gEnumS (mCons (mVar 1) mNil)) (mgTup 2 (mgCons (mgName 2) (mgCons (mgName 3) mgNil))) mclosed_v2_t0 (mVar 2) = M at *
    generalize tix (clP S ps) = X at *
    generalize D.lst ((clP S ps).map fun k => D.int (k : Nat)) = Y at *
    generalize D.lst (ps.map pl) = L at *
    generalize SpD n S = SP at *
    simp -implicitDefEqProofs [lc, gt]
  have := runM_rt (n := 4) (np := 2) (dd := []) (fr := false) (m := mclosed_v2) (ds := [SpD n S, .lst (ps.map pl)]) rfl e
  unfold Fclosed_v2
  rw [this, Ret.R_rt]
def DctD (n : Nat) (L : Lvl) : D := .dct true (L.map fun e => tix e.1) (L.map fun e => SpD n e.2)
theorem keyI_tix (a : List Nat) : keyI (tix a) = some (zI a) := by rw [tix_z]; exact keyI_tup (zI a)
theorem put_lvl (L : Lvl) (k : List Nat) (v : List Own) (hl : L.length ≤ 1000) : gDPut (DctD n L) (tix k) (SpD n v) = some (DctD n (lput L k v)) := by
  have sz := szv
  show (match keyI (tix k) with
    | some _ => if (L.map fun e : List Nat × List Own => tix e.1).length < sizeLine then some (D.dct true (putV keyI (L.map fun e : List Nat × List Own => tix e.1) (L.map fun e : List Nat × List Own => SpD n e.2) (tix k) (SpD n v)).1 (putV keyI (L.map fun e : List Nat × List Own => tix e.1) (L.map fun e : List Nat × List Own => SpD n e.2) (tix k) (SpD n v)).2) else none
    | none => none) = _
  rw [keyI_tix]
  show (if (L.map fun e => tix e.1).length < sizeLine then _ else _) = _
  rw [if_pos (by rw [List.length_map]; omega)]
  have ha : (L.map fun e => tix e.1).any (fun x => decide (keyI x = keyI (tix k))) = decide (k ∈ keysL L) := by
    rw [Bool.eq_iff_iff, decide_eq_true_iff, List.any_eq_true]
    constructor
    · rintro ⟨x, hx, e⟩
      obtain ⟨y, hy, rfl⟩ := List.mem_map.mp hx
      have e := of_decide_eq_true e
      rw [keyI_tix, keyI_tix] at e
      rw [← zI_inj (Option.some.inj e)]
      exact List.mem_map_of_mem hy
    · intro h
      obtain ⟨y, hy, rfl⟩ := List.mem_map.mp h
      exact ⟨tix y.1, List.mem_map_of_mem (f := fun e : List Nat × List Own => tix e.1) hy, decide_eq_true rfl⟩
  unfold putV
  rw [ha]
  unfold lput
  by_cases c : k ∈ keysL L
  · rw [if_pos (decide_eq_true c), if_pos c]
    unfold DctD
    congr 2
    · rw [List.map_map]
      refine List.map_congr_left fun e _ => ?_
      show tix e.1 = tix (if e.1 = k then (e.1, v) else e).1
      split <;> rfl
    · rw [List.map_map]
      show ((L.map fun e => tix e.1).zip (L.map fun e => SpD n e.2)).map _ = _
      rw [List.zip_map', List.map_map]
      refine List.map_congr_left fun e _ => ?_
      show (if keyI (tix e.1) = keyI (tix k) then SpD n v else SpD n e.2) = SpD n (if e.1 = k then (e.1, v) else e).2
      rw [keyI_tix, keyI_tix]
      by_cases d : e.1 = k
      · rw [if_pos (by rw [d]), if_pos d]
      · rw [if_neg (fun z => d (zI_inj (Option.some.inj z))), if_neg d]
  · rw [if_neg (by simpa using c), if_neg c]
    unfold DctD
    rw [List.map_append, List.map_append]
    rfl
end
end Q
namespace Q
open DL PySem PySem.Spec PyProof.Rows
section
variable {n : Nat} {ps : List (List Int)}
abbrev Elv (n : Nat) (R : D) (o3 o4 o5 o6 o7 o8 o9 o10 o11 o12 o13 : Option D) : En := [some (.int (n : Nat)), some (.int 0), some R, o3, o4, o5, o6, o7, o8, o9, o10, o11, o12, o13]
theorem dput_go {j : Nat} {mi : ME} {d c c' i : D} {ρ : En} (hj : getO ρ j = some c) (ht : isDT c = true) (hi : mi ρ = .ok i ρ) (hp : gDPut c i d = some c') : mgDPut j mi d ρ = .ok () (ρ.set j (some c')) := by
  unfold mgDPut
  rw [hj]
  show (if isDT c = true then _ else _) = _
  rw [if_pos ht, hi, bind_ok, hj]
  show (match gDPut c i d with
    | some c' => R.ok () (ρ.set j (some c'))
    | none => .bad) = _
  rw [hp]
theorem Pk.rows {n : Nat} {ps : List (List Int)} (hp : Pk n ps) : ∀ p ∈ ps, p.length = n + 1 := fun p h => (hp.row p h).1
theorem Pk.at {n : Nat} {ps : List (List Int)} (hp : Pk n ps) {k : Nat} (hk : k < ps.length) : szR (n + 1) 4 (ps.getD k []) := hp.row _ (by rw [List.getD_eq_getElem?_getD, List.getElem?_eq_getElem hk]; exact List.getElem_mem hk)
theorem nodup_le {α : Type} [DecidableEq α] : ∀ {l m : List α}, l.Nodup → (∀ x ∈ l, x ∈ m) → l.length ≤ m.length
  | [], m, _, _ => Nat.zero_le _
  | a :: l, m, h, hs => by
    have hm := hs a List.mem_cons_self
    obtain ⟨h1, h2⟩ := List.nodup_cons.mp h
    have := nodup_le (m := m.erase a) h2 fun x hx => (List.mem_erase_of_ne (fun z : x = a => h1 (by rw [← z]; exact hx))).mpr (hs x (List.mem_cons_of_mem _ hx))
    rw [List.length_erase_of_mem hm] at this
    have pos : 0 < m.length := List.length_pos_of_mem hm
    rw [List.length_cons]
    omega
theorem ent_sub {r : Nat} {e : List Nat × List Own} (h : Ent n ps r e) : e.1 ∈ subsL ps.length := by rw [h.key]; exact subs_filter _ _
theorem lv_len (hp : Pk n ps) {r : Nat} {L : Lvl} (nd : (keysL L).Nodup) (h : ∀ e ∈ L, Ent n ps r e) : L.length ≤ 64 := by
  have a := nodup_le (m := subsL ps.length) nd fun x hx => by
    obtain ⟨e, he, rfl⟩ := List.mem_map.mp hx
    exact ent_sub (h e he)
  rw [subs_len] at a
  have b : 2 ^ ps.length ≤ 2 ^ 6 := Nat.pow_le_pow_right (by decide) hp.len
  unfold keysL at a
  rw [List.length_map] at a
  omega
theorem ent_n (hp : Pk n ps) {r : Nat} {e : List Nat × List Own} (h : Ent n ps r e) : r ≤ n := by
  have a := span_rk (pickK_len1 hp.rows h.lt) h.sp.sf h.rs
  rw [h.len, ← met_rank hp.rows h.lt h.met] at a
  rw [a]
  exact rank_n hp.rows h.lt
theorem lb2_go (hp : Pk n ps) {r : Nat} {e : List Nat × List Own} (h : Ent n ps r e) {k : Nat} (hk : k < ps.length) {L : Lvl} (hL : L.length ≤ 1000) (o3 o4 o5 o11 o12 o13 : Option D) : ∃ o11' o12' o13', ∃ ρ2, (mlevels_v2_b2 (Elv n (.lst (ps.map pl)) o3 o4 o5 (some (DctD n L)) (some (tix e.1)) (some (SpD n e.2)) (some (.int (k : Nat))) (some (pl (ps.getD k []))) o11 o12 o13) = .nx ρ2 ∨ mlevels_v2_b2 (Elv n (.lst (ps.map pl)) o3 o4 o5 (some (DctD n L)) (some (tix e.1)) (some (SpD n e.2)) (some (.int (k : Nat))) (some (pl (ps.getD k []))) o11 o12 o13) = .ct ρ2) ∧
    ρ2 = Elv n (.lst (ps.map pl)) o3 o4 o5 (some (DctD n (lvStep n ps e L k))) (some (tix e.1)) (some (SpD n e.2)) (some (.int (k : Nat))) (some (pl (ps.getD k []))) o11' o12' o13' := by
  have n3 := hp.n3
  have rn := ent_n hp h
  have hl : e.2.length ≤ 6 := by rw [h.len]; omega
  have ix := in_tx2 e.1 k
  unfold lvStep
  by_cases c1 : k ∈ e.1
  · rw [decide_eq_true c1] at ix
    rw [if_pos c1]
    refine ⟨o11, o12, o13, _, .inr ?_, rfl⟩
    unfold mlevels_v2_b2
    generalize DctD n L = DD at *
    generalize tix e.1 = T at *
    generalize SpD n e.2 = SP at *
    generalize pl (ps.getD k []) = P at *
    generalize D.lst (ps.map pl) = LL at *
    simp -implicitDefEqProofs [ix]
  · rw [decide_eq_false c1] at ix
    rw [if_neg c1]
    have hr := hp.at hk
    obtain ⟨x1, v1⟩ := v_rest (by omega) hr h.sz hl zz4
    have sr := restP_sz hr h.sz
    obtain ⟨x2, v2⟩ := v_placeOf (S := e.2) (r := restP e.2 (ps.getD k [])) (by omega) sr.1
    have m1 := fun o11 => meth_sp (tab := tb [("Span", FSpan_rest)]) (mn := "rest") (o := mVar 8) (args := mCons (mVar 10) mNil) (ρ := Elv n (.lst (ps.map pl)) o3 o4 o5 (some (DctD n L)) (some (tix e.1)) (some (SpD n e.2)) (some (.int (k : Nat))) (some (pl (ps.getD k []))) o11 o12 o13) rfl rfl rfl (fun _ _ _ => rfl) v1
    have m2 := meth_sp (tab := tb [("Span", FSpan_place_of)]) (mn := "place_of") (o := mVar 8) (args := mCons (mVar 11) mNil) (ρ := Elv n (.lst (ps.map pl)) o3 o4 o5 (some (DctD n L)) (some (tix e.1)) (some (SpD n e.2)) (some (.int (k : Nat))) (some (pl (ps.getD k []))) (some (pl (restP e.2 (ps.getD k [])))) o12 o13) rfl rfl rfl (fun _ _ _ => rfl) v2
    cases c2 : firstNZ n (restP e.2 (ps.getD k [])) with
    | none =>
      rw [c2] at m2
      have m1 := m1 o11
      have gi : isNon (oN none) = true := rfl
      refine ⟨some (pl (restP e.2 (ps.getD k []))), some (oN none), o13, _, .inr ?_, rfl⟩
      unfold mlevels_v2_b2
      clear v1 v2 sr hr
      generalize mMeth (tb [("Span", FSpan_rest)]) "rest" (mVar 8) (mCons (mVar 10) mNil) = M1 at *
      generalize mMeth (tb [("Span", FSpan_place_of)]) "place_of" (mVar 8) (mCons (mVar 11) mNil) = M2 at *
      generalize oN none = Y at *
      generalize pl (restP e.2 (ps.getD k [])) = X at *
      generalize DctD n L = DD at *
      generalize tix e.1 = T at *
      generalize SpD n e.2 = SP at *
      generalize pl (ps.getD k []) = P at *
      generalize D.lst (ps.map pl) = LL at *
      simp -implicitDefEqProofs [ix, m1, m2, gi]
    | some p =>
      rw [c2] at m2
      have m1 := m1 o11
      obtain ⟨x3, v3⟩ := v_with (n := n) (S := e.2) (r := restP e.2 (ps.getD k [])) p (by omega)
      have m3 := meth_sp (tab := tb [("Span", FSpan_with_rest)]) (mn := "with_rest") (o := mVar 8) (args := mCons (mVar 12) (mCons (mVar 11) mNil)) (ρ := Elv n (.lst (ps.map pl)) o3 o4 o5 (some (DctD n L)) (some (tix e.1)) (some (SpD n e.2)) (some (.int (k : Nat))) (some (pl (ps.getD k []))) (some (pl (restP e.2 (ps.getD k [])))) (some (.int (p : Nat))) o13) rfl rfl rfl (fun _ _ _ => rfl) v3
      have en := (ent_next hp.rows hp.row h hk c2).1
      have vc := fun ρ => v_closedP hp en.sz (by have := en.len; rw [this]; omega) ρ
      have pt := put_lvl (n := n) L (clP (e.2 ++ [(p, restP e.2 (ps.getD k []))]) ps) (e.2 ++ [(p, restP e.2 (ps.getD k []))]) hL
      have gi : isNon (oN (some p)) = false := rfl
      have gp : oN (some p) = .int (p : Nat) := rfl
      rw [gp] at gi m2
      refine ⟨some (pl (restP e.2 (ps.getD k []))), some (.int (p : Nat)), some (SpD n (e.2 ++ [(p, restP e.2 (ps.getD k []))])), _, .inl ?_, rfl⟩
      have dg := dput_go (j := 6) (mi := mCall Q.Fclosed_v2 (mCons (mVar 13) (mCons (mVar 2) mNil))) (d := SpD n (e.2 ++ [(p, restP e.2 (ps.getD k []))])) (c := DctD n L) (c' := DctD n (lput L (clP (e.2 ++ [(p, restP e.2 (ps.getD k []))]) ps) (e.2 ++ [(p, restP e.2 (ps.getD k []))]))) (i := tix (clP (e.2 ++ [(p, restP e.2 (ps.getD k []))]) ps))
        (ρ := Elv n (.lst (ps.map pl)) o3 o4 o5 (some (DctD n L)) (some (tix e.1)) (some (SpD n e.2)) (some (.int (k : Nat))) (some (pl (ps.getD k []))) (some (pl (restP e.2 (ps.getD k [])))) (some (.int (p : Nat))) (some (SpD n (e.2 ++ [(p, restP e.2 (ps.getD k []))])))) rfl rfl (by
          have vc' := vc
          clear v1 v2 v3 m1 m2 m3 pt vc
          generalize tix (clP (e.2 ++ [(p, restP e.2 (ps.getD k []))]) ps) = Z at *
          generalize SpD n (e.2 ++ [(p, restP e.2 (ps.getD k []))]) = SP2 at *
          generalize pl (restP e.2 (ps.getD k [])) = X at *
          generalize DctD n L = DD at *
          generalize tix e.1 = T at *
          generalize SpD n e.2 = SP at *
          generalize pl (ps.getD k []) = P at *
          generalize D.lst (ps.map pl) = LL at *
          simp -implicitDefEqProofs [mCall_R, vc']) pt
      unfold mlevels_v2_b2
      clear v1 v2 v3 sr hr vc pt en
      generalize mMeth (tb [("Span", FSpan_rest)]) "rest" (mVar 8) (mCons (mVar 10) mNil) = M1 at *
      generalize mMeth (tb [("Span", FSpan_place_of)]) "place_of" (mVar 8) (mCons (mVar 11) mNil) = M2 at *
      generalize mMeth (tb [("Span", FSpan_with_rest)]) "with_rest" (mVar 8) (mCons (mVar 12) (mCons (mVar 11) mNil)) = M3 at *
      generalize mgDPut 6 (mCall Q.Fclosed_v2 (mCons (mVar 13) (mCons (mVar 2) mNil))) = G6 at *
      generalize DctD n (lput L (clP (e.2 ++ [(p, restP e.2 (ps.getD k []))]) ps) (e.2 ++ [(p, restP e.2 (ps.getD k []))])) = DD2 at *
      generalize SpD n (e.2 ++ [(p, restP e.2 (ps.getD k []))]) = SP2 at *
      generalize pl (restP e.2 (ps.getD k [])) = X at *
      generalize DctD n L = DD at *
      generalize tix e.1 = T at *
      generalize SpD n e.2 = SP at *
      generalize pl (ps.getD k []) = P at *
      generalize D.lst (ps.map pl) = LL at *
      simp -implicitDefEqProofs [ix, m1, m2, m3, gi, dg]
theorem lb3_go (hp : Pk n ps) {r : Nat} {e : List Nat × List Own} (h : Ent n ps r e) {L : Lvl} (nd : (keysL L).Nodup) (hL : ∀ x ∈ L, Ent n ps (r + 1) x) (o3 o4 o5 o9 o10 o11 o12 o13 : Option D) : ∃ o9' o10' o11' o12' o13', mlevels_v2_b3 (Elv n (.lst (ps.map pl)) o3 o4 o5 (some (DctD n L)) (some (tix e.1)) (some (SpD n e.2)) o9 o10 o11 o12 o13) =
    .nx (Elv n (.lst (ps.map pl)) o3 o4 o5 (some (DctD n (lvIn n ps L e))) (some (tix e.1)) (some (SpD n e.2)) o9' o10' o11' o12' o13') := by
  have en := enum_pl ps
  obtain ⟨ρ', e1, ⟨e2, _, _⟩⟩ := loop_st (g := mgTup 2 (mgCons (mgName 9) (mgCons (mgName 10) mgNil))) (mb := mlevels_v2_b2) (enc := enR ps) (step := lvStep n ps e)
    (st := fun D ρ => (∃ o9 o10 o11 o12 o13, ρ = Elv n (.lst (ps.map pl)) o3 o4 o5 (some (DctD n D)) (some (tix e.1)) (some (SpD n e.2)) o9 o10 o11 o12 o13) ∧ (keysL D).Nodup ∧ ∀ x ∈ D, Ent n ps (r + 1) x) (List.range ps.length) L (Elv n (.lst (ps.map pl)) o3 o4 o5 (some (DctD n L)) (some (tix e.1)) (some (SpD n e.2)) o9 o10 o11 o12 o13)
    (fun k hk D ρ ⟨⟨p9, p10, p11, p12, p13, er⟩, nd, hD⟩ => by
      have lt := List.mem_range.mp hk
      subst er
      refine ⟨Elv n (.lst (ps.map pl)) o3 o4 o5 (some (DctD n D)) (some (tix e.1)) (some (SpD n e.2)) (some (.int (k : Nat))) (some (pl (ps.getD k []))) p11 p12 p13, rfl, ?_⟩
      obtain ⟨q11, q12, q13, ρ2, z1, z2⟩ := lb2_go hp h lt (L := D) (by have := lv_len hp nd hD; omega) o3 o4 o5 p11 p12 p13
      have st1 := step_ent hp.rows hp.row h [k] (D := D) (fun x hx => by rw [List.mem_singleton.mp hx]; exact lt) nd hD
      exact ⟨ρ2, z1, ⟨_, _, _, _, _, z2⟩, st1.1, st1.2.1⟩) ⟨⟨o9, o10, o11, o12, o13, rfl⟩, nd, hL⟩
  obtain ⟨q9, q10, q11, q12, q13, er⟩ := e2
  refine ⟨q9, q10, q11, q12, q13, ?_⟩
  rw [← show Elv n (.lst (ps.map pl)) o3 o4 o5 (some (DctD n (lvIn n ps L e))) (some (tix e.1)) (some (SpD n e.2)) q9 q10 q11 q12 q13 = Elv n (.lst (ps.map pl)) o3 o4 o5 (some (DctD n ((List.range ps.length).foldl (lvStep n ps e) L))) (some (tix e.1)) (some (SpD n e.2)) q9 q10 q11 q12 q13 from rfl] at er
  rw [er] at e1
  unfold mlevels_v2_b3
  clear er
  generalize mlevels_v2_b2 = B at *
  generalize (List.range ps.length).map (enR ps) = RR at *
  generalize DctD n L = DD at *
  generalize DctD n (lvIn n ps L e) = DD2 at *
  generalize tix e.1 = T at *
  generalize SpD n e.2 = SP at *
  generalize D.lst (ps.map pl) = LL at *
  simp -implicitDefEqProofs [en, e1]
end
end Q
namespace Q
open DL PySem PySem.Spec PyProof.Rows
section
variable {n : Nat} {ps : List (List Int)}
def lD (L : List (List Nat)) : D := .lst (L.map tix)
def lvlD (n : Nat) (ps : List (List Int)) (R : Nat) : List D := (List.range R).map fun r => lD (lvS n ps r)
theorem key_ne (hp : Pk n ps) {r : Nat} (hr : 0 < r) : ∀ f ∈ keysL (lvAll n ps r), f ≠ [] := fun f hf e => by
  obtain ⟨_, b⟩ := (lv_mem hp.rows hp.row).mp hf
  rw [e] at b
  have : rankL (n + 1) (pickK ps []) = 0 := rfl
  omega
theorem sort_lvl (hp : Pk n ps) (r : Nat) : gSortDk [DctD n (lvAll n ps r)] = some (lD (lvS n ps r)) := by
  show gSortLD ((lvAll n ps r).map fun e => tix e.1) = _
  have e : (lvAll n ps r).map (fun e => tix e.1) = (keysL (lvAll n ps r)).map tix := by unfold keysL; rw [List.map_map]; rfl
  rw [e]
  refine g_sortT fun h2 => ?_
  cases r with
  | zero => exact absurd h2 (by unfold keysL; simp [lvAll])
  | succ r => exact key_ne hp (by omega)
theorem mOM_at {g : List D → List D → Option (D × List D)} {j : Nat} {args : MA} {ρ : En} {ds cs cs2 : List D} {z : D} (h0 : getO ρ j = some (.lst cs)) (h1 : args ρ = .ok ds ρ) (h3 : g cs ds = some (z, cs2)) : mOM g j args ρ = .ok z (ρ.set j (some (.lst cs2))) := by
  unfold mOM
  rw [h0]
  show R.bind (args ρ) _ = _
  rw [h1, bind_ok, h0]
  show (match g cs ds with
    | some (z, cs') => R.ok z (ρ.set j (some (.lst cs')))
    | none => .bad) = _
  rw [h3]
theorem app_ds {L : List D} {x : D} (h : L.length ≤ 1000) : gAppend L [x] = some (.non, L ++ [x]) := by
  have sz := szv
  have : L.length < sizeLine := by omega
  show (if _ then _ else _) = _
  rw [if_pos this]
theorem fin_nx {o : Out} {ρ : En} (h : o = .nx ρ) : finD o = .nx ρ := by rw [h]; rfl
theorem forD_go {j : Nat} {g : MG} {mb : MS} {ρ ρ' : En} {ks vs : List D} (h : getO ρ j = some (.dct true ks vs)) (hl : loopL g mb (itemsD ks vs) ρ = .nx ρ') : msForD j g mb ρ = .nx ρ' := by
  unfold msForD
  rw [h]
  exact fin_nx hl
theorem items_lvl (L : Lvl) : itemsD (L.map fun e => tix e.1) (L.map fun e => SpD n e.2) = L.map fun e => .tup [tix e.1, SpD n e.2] := by
  unfold itemsD
  rw [List.zip_map', List.map_map]
  rfl
theorem lb4_go (hp : Pk n ps) (r : Nat) {R : Nat} (hR : R ≤ 10) (F : List D) (hF : F.length ≤ 10) (o3 o6 o7 o8 o9 o10 o11 o12 o13 : Option D) : ∃ o6' o7' o8' o9' o10' o11' o12' o13', mlevels_v2_b4 (Elv n (.lst (ps.map pl)) o3 (some (DctD n (lvAll n ps r))) (some (.lst F)) o6 o7 o8 o9 o10 o11 o12 o13) =
    .nx (Elv n (.lst (ps.map pl)) o3 (some (DctD n (lvAll n ps (r + 1)))) (some (.lst (F ++ [lD (lvS n ps r)]))) o6' o7' o8' o9' o10' o11' o12' o13') := by
  have so := sort_lvl hp r
  have ap := app_ds (L := F) (x := lD (lvS n ps r)) (by omega)
  obtain ⟨nd, en⟩ := all_ent hp.rows hp.row r
  obtain ⟨ρ', e1, ⟨e2, _, _⟩⟩ := loop_st (g := mgTup 2 (mgCons (mgName 7) (mgCons (mgName 8) mgNil))) (mb := mlevels_v2_b3) (enc := fun e : List Nat × List Own => .tup [tix e.1, SpD n e.2]) (step := lvIn n ps)
    (st := fun D ρ => (∃ o7 o8 o9 o10 o11 o12 o13, ρ = Elv n (.lst (ps.map pl)) o3 (some (DctD n (lvAll n ps r))) (some (.lst (F ++ [lD (lvS n ps r)]))) (some (DctD n D)) o7 o8 o9 o10 o11 o12 o13) ∧ (keysL D).Nodup ∧ ∀ x ∈ D, Ent n ps (r + 1) x) (lvAll n ps r) []
    (Elv n (.lst (ps.map pl)) o3 (some (DctD n (lvAll n ps r))) (some (.lst (F ++ [lD (lvS n ps r)]))) (some (DctD n [])) o7 o8 o9 o10 o11 o12 o13)
    (fun e he D ρ ⟨⟨p7, p8, p9, p10, p11, p12, p13, er⟩, nd, hD⟩ => by
      subst er
      refine ⟨Elv n (.lst (ps.map pl)) o3 (some (DctD n (lvAll n ps r))) (some (.lst (F ++ [lD (lvS n ps r)]))) (some (DctD n D)) (some (tix e.1)) (some (SpD n e.2)) p9 p10 p11 p12 p13, rfl, ?_⟩
      obtain ⟨q9, q10, q11, q12, q13, z⟩ := lb3_go hp (en e he) nd hD o3 (some (DctD n (lvAll n ps r))) (some (.lst (F ++ [lD (lvS n ps r)]))) p9 p10 p11 p12 p13
      have st1 := next_ent hp.rows hp.row [e] (D := D) (fun x hx => by rw [List.mem_singleton.mp hx]; exact en e he) nd hD
      exact ⟨_, .inl z, ⟨_, _, _, _, _, _, _, rfl⟩, st1.1, st1.2.1⟩) ⟨⟨o7, o8, o9, o10, o11, o12, o13, rfl⟩, by simp [keysL], fun _ h => absurd h List.not_mem_nil⟩
  obtain ⟨q7, q8, q9, q10, q11, q12, q13, er⟩ := e2
  rw [show (lvAll n ps r).foldl (lvIn n ps) [] = lvAll n ps (r + 1) from rfl] at er
  subst er
  refine ⟨some (DctD n (lvAll n ps (r + 1))), q7, q8, q9, q10, q11, q12, q13, ?_⟩
  have a1 : (mOM gAppend 5 (mCons (mN gSortDk (mCons (mVar 4) mNil)) mNil)) (Elv n (.lst (ps.map pl)) o3 (some (DctD n (lvAll n ps r))) (some (.lst F)) o6 o7 o8 o9 o10 o11 o12 o13) = .ok .non (Elv n (.lst (ps.map pl)) o3 (some (DctD n (lvAll n ps r))) (some (.lst (F ++ [lD (lvS n ps r)]))) o6 o7 o8 o9 o10 o11 o12 o13) :=
    mOM_at (cs := F) rfl (by
      clear e1 ap
      generalize lD (lvS n ps r) = Y at *
      generalize DctD n (lvAll n ps r) = DD at *
      generalize D.lst (ps.map pl) = LL at *
      generalize D.lst F = FF at *
      simp -implicitDefEqProofs [so]) ap
  have a4 : (msForD 4 (mgTup 2 (mgCons (mgName 7) (mgCons (mgName 8) mgNil))) mlevels_v2_b3) (Elv n (.lst (ps.map pl)) o3 (some (DctD n (lvAll n ps r))) (some (.lst (F ++ [lD (lvS n ps r)]))) (some (DctD n [])) o7 o8 o9 o10 o11 o12 o13) =
      .nx (Elv n (.lst (ps.map pl)) o3 (some (DctD n (lvAll n ps r))) (some (.lst (F ++ [lD (lvS n ps r)]))) (some (DctD n (lvAll n ps (r + 1)))) q7 q8 q9 q10 q11 q12 q13) :=
    forD_go rfl (by rw [items_lvl]; exact e1)
  have b0 : (msExpr (mOM gAppend 5 (mCons (mN gSortDk (mCons (mVar 4) mNil)) mNil))) (Elv n (.lst (ps.map pl)) o3 (some (DctD n (lvAll n ps r))) (some (.lst F)) o6 o7 o8 o9 o10 o11 o12 o13) = .nx (Elv n (.lst (ps.map pl)) o3 (some (DctD n (lvAll n ps r))) (some (.lst (F ++ [lD (lvS n ps r)]))) o6 o7 o8 o9 o10 o11 o12 o13) := by
    unfold msExpr
    rw [a1]
    rfl
  unfold mlevels_v2_b4
  rw [seq_nx b0, msForget_ap]
  have b1 : (msOwn 6 mDct0) ((Elv n (.lst (ps.map pl)) o3 (some (DctD n (lvAll n ps r))) (some (.lst (F ++ [lD (lvS n ps r)]))) o6 o7 o8 o9 o10 o11 o12 o13).set 6 none) = .nx (Elv n (.lst (ps.map pl)) o3 (some (DctD n (lvAll n ps r))) (some (.lst (F ++ [lD (lvS n ps r)]))) (some (DctD n [])) o7 o8 o9 o10 o11 o12 o13) := rfl
  rw [seq_nx b1, seq_nx a4]
  rfl
theorem lv_end (hp : Pk n ps) : lvAll n ps (n + 1) = [] := by
  cases h : lvAll n ps (n + 1) with
  | nil => rfl
  | cons e L =>
    have := ent_n hp ((all_ent hp.rows hp.row (n + 1)).2 e (by rw [h]; exact List.mem_cons_self))
    omega
theorem lvlD_succ (r : Nat) : lvlD n ps (r + 1) = lvlD n ps r ++ [lD (lvS n ps r)] := by
  unfold lvlD
  rw [List.range_succ, List.map_append]
  rfl
theorem tru_lvl (L : Lvl) : truD (DctD n L) = some (!L.isEmpty) := by
  show some (!(L.map fun e => tix e.1).isEmpty) = _
  cases L <;> rfl
theorem mTruD_go {j : Nat} {ρ : En} {d : D} {b : Bool} (h : mVar j ρ = .ok d ρ) (ht : truD d = some b) : mTruD (mVar j) ρ = .ok b ρ := by
  unfold mTruD
  rw [h, bind_ok, ht]
  rfl
theorem while_go (hp : Pk n ps) (o3 : Option D) : ∀ (m r fuel : Nat), r + m = n + 1 → m + 1 ≤ fuel → ∀ (o6 o7 o8 o9 o10 o11 o12 o13 : Option D), ∃ R, R ≤ n + 1 ∧ lvAll n ps R = [] ∧ ∃ o6' o7' o8' o9' o10' o11' o12' o13',
    loopW (mTruD (mVar 4)) mlevels_v2_b4 fuel (Elv n (.lst (ps.map pl)) o3 (some (DctD n (lvAll n ps r))) (some (.lst (lvlD n ps r))) o6 o7 o8 o9 o10 o11 o12 o13) =
    .nx (Elv n (.lst (ps.map pl)) o3 (some (DctD n (lvAll n ps R))) (some (.lst (lvlD n ps R))) o6' o7' o8' o9' o10' o11' o12' o13') := by
  have n3 := hp.n3
  intro m
  induction m with
  | zero =>
    intro r fuel hr hf o6 o7 o8 o9 o10 o11 o12 o13
    obtain ⟨fuel, rfl⟩ : ∃ k, fuel = k + 1 := ⟨fuel - 1, by omega⟩
    have er : r = n + 1 := by omega
    subst er
    refine ⟨n + 1, Nat.le_refl _, lv_end hp, o6, o7, o8, o9, o10, o11, o12, o13, ?_⟩
    have c := mTruD_go (j := 4) (ρ := Elv n (.lst (ps.map pl)) o3 (some (DctD n (lvAll n ps (n + 1)))) (some (.lst (lvlD n ps (n + 1)))) o6 o7 o8 o9 o10 o11 o12 o13) rfl (tru_lvl (lvAll n ps (n + 1)))
    rw [show (!(lvAll n ps (n + 1)).isEmpty) = false by rw [lv_end hp]; rfl] at c
    simp only [loopW, c]
  | succ m ih =>
    intro r fuel hr hf o6 o7 o8 o9 o10 o11 o12 o13
    obtain ⟨fuel, rfl⟩ : ∃ k, fuel = k + 1 := ⟨fuel - 1, by omega⟩
    have c := mTruD_go (j := 4) (ρ := Elv n (.lst (ps.map pl)) o3 (some (DctD n (lvAll n ps r))) (some (.lst (lvlD n ps r))) o6 o7 o8 o9 o10 o11 o12 o13) rfl (tru_lvl (lvAll n ps r))
    by_cases h : lvAll n ps r = []
    · refine ⟨r, by omega, h, o6, o7, o8, o9, o10, o11, o12, o13, ?_⟩
      rw [show (!(lvAll n ps r).isEmpty) = false by rw [h]; rfl] at c
      simp only [loopW, c]
    · rw [show (!(lvAll n ps r).isEmpty) = true by cases q : lvAll n ps r with
        | nil => exact absurd q h
        | cons _ _ => rfl] at c
      obtain ⟨p6, p7, p8, p9, p10, p11, p12, p13, e⟩ := lb4_go hp r (R := 0) (by omega) (lvlD n ps r) (by unfold lvlD; rw [List.length_map, List.length_range]; omega) o3 o6 o7 o8 o9 o10 o11 o12 o13
      obtain ⟨R, h1, h2, q6, q7, q8, q9, q10, q11, q12, q13, e2⟩ := ih (r + 1) fuel (by omega) (by omega) p6 p7 p8 p9 p10 p11 p12 p13
      refine ⟨R, h1, h2, q6, q7, q8, q9, q10, q11, q12, q13, ?_⟩
      rw [lvlD_succ] at e2
      rw [← e2]
      simp only [loopW, c, e]
theorem v_levels (hp : Pk n ps) : ∃ R, R ≤ n + 1 ∧ lvAll n ps R = [] ∧ ∀ ρ, (Flevels_v2 [.int (n : Nat), .int 0, .lst (ps.map pl)]).R ρ = .ok (.lst (lvlD n ps R)) ρ := by
  obtain ⟨R, h1, h2, q6, q7, q8, q9, q10, q11, q12, q13, e⟩ := while_go hp (some (SpD n [])) (n + 1) 0 1000000 (by omega) (by have := hp.n3; omega) none none none none none none none none
  refine ⟨R, h1, h2, fun ρ => ?_⟩
  have vi := v_spInit (n := n)
  have mk : mMake "Span" FSpan_init (mCons (mVar 0) (mCons (mVar 1) mNil)) (Elv n (.lst (ps.map pl)) none none none none none none none none none none none) = .ok (SpD n []) (Elv n (.lst (ps.map pl)) none none none none none none none none none none none) := by
    unfold mMake
    have : (mCons (mVar 0) (mCons (mVar 1) mNil)) (Elv n (.lst (ps.map pl)) none none none none none none none none none none none) = .ok [.int (n : Nat), .int 0] (Elv n (.lst (ps.map pl)) none none none none none none none none none none none) := rfl
    rw [this, bind_ok, vi]
  have e0 : mlevels_v2_s0 (Elv n (.lst (ps.map pl)) none none none none none none none none none none none) = .nx (Elv n (.lst (ps.map pl)) (some (SpD n [])) none none none none none none none none none none) := by
    unfold mlevels_v2_s0 msAsg
    rw [mk]
    rfl
  have vc := v_closedP hp (S := []) .nil (by simp)
  have d1 : (mDct1 (mCall Q.Fclosed_v2 (mCons (mVar 3) (mCons (mVar 2) mNil))) (mVar 3)) (Elv n (.lst (ps.map pl)) (some (SpD n [])) none none none none none none none none none none) = .ok (DctD n (lvAll n ps 0)) (Elv n (.lst (ps.map pl)) (some (SpD n [])) none none none none none none none none none none) := by
    have c : (mCall Q.Fclosed_v2 (mCons (mVar 3) (mCons (mVar 2) mNil))) (Elv n (.lst (ps.map pl)) (some (SpD n [])) none none none none none none none none none none) = .ok (tix (clP [] ps)) (Elv n (.lst (ps.map pl)) (some (SpD n [])) none none none none none none none none none none) := by
      generalize tix (clP [] ps) = X at *
      generalize SpD n [] = SP at *
      generalize D.lst (ps.map pl) = LL at *
      simp -implicitDefEqProofs [mCall_R, vc]
    unfold mDct1
    rw [c, bind_ok]
    show DL.R.bind (mVar 3 _) _ = _
    have v : mVar 3 (Elv n (.lst (ps.map pl)) (some (SpD n [])) none none none none none none none none none none) = .ok (SpD n []) (Elv n (.lst (ps.map pl)) (some (SpD n [])) none none none none none none none none none none) := rfl
    rw [v, bind_ok, keyI_tix]
    rfl
  have e1 : mlevels_v2_s1 (Elv n (.lst (ps.map pl)) (some (SpD n [])) none none none none none none none none none none) = .nx (Elv n (.lst (ps.map pl)) (some (SpD n [])) (some (DctD n (lvAll n ps 0))) none none none none none none none none none) := by
    unfold mlevels_v2_s1 msAsg
    rw [d1]
    rfl
  have e2 : (msOwn 5 (mN gLst mNil)) (Elv n (.lst (ps.map pl)) (some (SpD n [])) (some (DctD n (lvAll n ps 0))) none none none none none none none none none) = .nx (Elv n (.lst (ps.map pl)) (some (SpD n [])) (some (DctD n (lvAll n ps 0))) (some (.lst (lvlD n ps 0))) none none none none none none none none) := by
    show _ = Out.nx [some (.int (n : Nat)), some (.int 0), some (.lst (ps.map pl)), some (SpD n []), some (DctD n (lvAll n ps 0)), some (.lst ([] : List D)), none, none, none, none, none, none, none, none]
    generalize DctD n (lvAll n ps 0) = DD at *
    generalize SpD n [] = SP at *
    generalize D.lst (ps.map pl) = LL at *
    simp -implicitDefEqProofs
  have go : mlevels_v2 (Elv n (.lst (ps.map pl)) none none none none none none none none none none none) = .rt (.lst (lvlD n ps R)) (Elv n (.lst (ps.map pl)) (some (SpD n [])) (some (DctD n (lvAll n ps R))) (some (.lst (lvlD n ps R))) q6 q7 q8 q9 q10 q11 q12 q13) := by
    unfold mlevels_v2
    rw [seq_nx e0, seq_nx e1, msForget_ap]
    show msSeq _ _ (Elv n (.lst (ps.map pl)) (some (SpD n [])) (some (DctD n (lvAll n ps 0))) none none none none none none none none none) = _
    rw [seq_nx e2]
    have e3 : mlevels_v2_s5 (Elv n (.lst (ps.map pl)) (some (SpD n [])) (some (DctD n (lvAll n ps 0))) (some (.lst (lvlD n ps 0))) none none none none none none none none) = .nx (Elv n (.lst (ps.map pl)) (some (SpD n [])) (some (DctD n (lvAll n ps R))) (some (.lst (lvlD n ps R))) q6 q7 q8 q9 q10 q11 q12 q13) := e
    rw [seq_nx e3]
    rfl
  have := runM_rt (n := 14) (np := 3) (dd := []) (fr := false) (m := mlevels_v2) (ds := [.int (n : Nat), .int 0, .lst (ps.map pl)]) rfl go
  unfold Flevels_v2
  rw [this, Ret.R_rt]
theorem lv_stay {R : Nat} (h : lvAll n ps R = []) : ∀ k, lvAll n ps (R + k) = []
  | 0 => h
  | k + 1 => by
    show lvNext n ps (lvAll n ps (R + k)) = []
    rw [lv_stay h k]
    rfl
theorem web_cut {R : Nat} (hR : R ≤ n + 1) (h : lvAll n ps R = []) : (List.range R).flatMap (lvS n ps) = webP n ps := by
  unfold webP
  have e : n + 1 = R + (n + 1 - R) := by omega
  rw [e, List.range_add, List.flatMap_append]
  have z : ((List.range (n + 1 - R)).map (R + ·)).flatMap (lvS n ps) = [] := by
    rw [List.flatMap_eq_nil_iff]
    intro x hx
    obtain ⟨k, _, rfl⟩ := List.mem_map.mp hx
    unfold lvS
    rw [lv_stay h k]
    exact sort_nop (by simp [keysL])
  rw [z, List.append_nil]
theorem webP_len (hp : Pk n ps) : (webP n ps).length ≤ 64 ∧ ∀ f ∈ webP n ps, f ∈ subsL ps.length := by
  have hs : ∀ f ∈ webP n ps, f ∈ subsL ps.length := fun f hf => by
    have := ((webP_mem hp.rows hp.row).mp hf).2.2
    rw [this]
    exact subs_filter _ _
  refine ⟨?_, hs⟩
  rw [← web_eq hp.rows hp.row]
  unfold webL
  rw [List.length_map, List.length_mergeSort, List.length_map]
  have a := nodup_le (m := subsL ps.length) (dedW_go (subsL ps.length) [] List.nodup_nil (n := n) (ps := ps)).1 fun x hx => by
    have := ((flW_mem hp.rows).mp hx).2.2
    rw [this]
    exact subs_filter _ _
  rw [subs_len] at a
  have b : 2 ^ ps.length ≤ 2 ^ 6 := Nat.pow_le_pow_right (by decide) hp.len
  show (flW n ps).length ≤ 64
  unfold flW
  omega
end
end Q
namespace Q
open DL PySem PySem.Spec PyProof.Rows
section
variable {n : Nat} {ps : List (List Int)} {ks : List Nat} {as : List Int} {d : D}
abbrev IxS (d : D) (ks : List Nat) : Prop := Sq d (ks.map fun k => D.int (k : Nat))
theorem IxS.tix (ks : List Nat) : IxS (Q.tix ks) ks := .tup _
theorem IxS.ints {d : D} {ks : List Nat} (h : IxS d ks) : Sq d ((ks.map fun k : Nat => (k : Int)).map D.int) := by rw [List.map_map]; exact h
theorem v_placesS (hd : Sq d (as.map .int)) (hl : ps.length ≤ 1000) (ρ : En) : (Fcheck_places [PO n ps, d]).R ρ = if inRA ps.length as = true then .ok .non ρ else .ex BN ρ := by
  have lx := lenX_po (n := n) hl
  have lp : ∀ (xs : List Int) (A : D) (o2 : Option D), (inRA ps.length xs = true → ∃ o2', loopL (mgName 2) mcheck_places_b0 (xs.map .int) [some (PO n ps), some A, o2] = .nx [some (PO n ps), some A, o2']) ∧ (inRA ps.length xs = false → ∃ ρ', loopL (mgName 2) mcheck_places_b0 (xs.map .int) [some (PO n ps), some A, o2] = .ex BN ρ') := by
    intro xs A
    induction xs with
    | nil => exact fun o2 => ⟨fun _ => ⟨o2, rfl⟩, fun h => nomatch h⟩
    | cons a xs ih =>
      intro o2
      have g : mgName 2 (.int a) [some (PO n ps), some A, o2] = .ok () [some (PO n ps), some A, some (.int a)] := rfl
      have e : inRA ps.length (a :: xs) = (decide (0 ≤ a ∧ a < ps.length) && inRA ps.length xs) := rfl
      rw [List.map_cons, e]
      by_cases c : 0 ≤ a ∧ a < ps.length
      · rw [decide_eq_true c, Bool.true_and]
        have b : mcheck_places_b0 [some (PO n ps), some A, some (.int a)] = .nx [some (PO n ps), some A, some (.int a)] := by
          have c1 := c.1
          have c2 := c.2
          generalize PO n ps = P at *
          generalize (ps.length : Int) = L at *
          simp -implicitDefEqProofs [mcheck_places_b0, mChain, lx, c1, c2]
        rw [loop_step g b]
        exact ih (some (.int a))
      · rw [decide_eq_false c, Bool.false_and]
        refine ⟨(fun h => by cases h), fun _ => ⟨[some (PO n ps), some A, some (.int a)], ?_⟩⟩
        have b : mcheck_places_b0 [some (PO n ps), some A, some (.int a)] = .ex BN [some (PO n ps), some A, some (.int a)] := by
          by_cases c1 : 0 ≤ a
          · have c2 : ¬ a < ps.length := fun z => c ⟨c1, z⟩
            generalize PO n ps = P at *
            generalize (ps.length : Int) = L at *
            simp -implicitDefEqProofs [mcheck_places_b0, mChain, lx, c1, c2]
          · generalize PO n ps = P at *
            generalize (ps.length : Int) = L at *
            simp -implicitDefEqProofs [mcheck_places_b0, mChain, lx, c1]
        simp only [loopL, g, b]
  obtain ⟨l1, l2⟩ := lp as d none
  have gi : gIter d = some (as.map .int) := hd.iter
  have ef : ∀ r, loopL (mgName 2) mcheck_places_b0 (as.map .int) [some (PO n ps), some d, none] = r → mcheck_places [some (PO n ps), some d, none] = r := by
    intro r h
    rw [← h]
    clear l1 l2 lp h
    generalize as.map D.int = xs at *
    generalize PO n ps = P at *
    unfold mcheck_places
    generalize mcheck_places_b0 = mb at *
    simp -implicitDefEqProofs [gi]
  have hh : Fcheck_places [PO n ps, d] = runM 3 2 [] false mcheck_places [PO n ps, d] := rfl
  cases c1 : inRA ps.length as with
  | false =>
    obtain ⟨ρ', e⟩ := l2 c1
    rw [hh, runM_ex (n := 3) (np := 2) (dd := []) (fr := false) (m := mcheck_places) (ds := [PO n ps, d]) rfl (ef _ e)]
    rfl
  | true =>
    obtain ⟨o2, e⟩ := l1 c1
    rw [hh, runM_nx (n := 3) (np := 2) (dd := []) (m := mcheck_places) (ds := [PO n ps, d]) rfl (ef _ e)]
    rfl
theorem v_chosenS (hd : IxS d ks) (hk : ∀ k ∈ ks, k < ps.length) (hl : ks.length ≤ 1000) (ρ : En) : (Fchosen [PO n ps, d]).R ρ = .ok (.lst ((pickK ps ks).map pl)) ρ := by
  have sz := szv
  have hm : mMeth (tb [("Planes", FPlanes_planes)]) "planes" (mVar 0) mNil [some (PO n ps), some d, none, none] = .ok (.lst (ps.map pl)) [some (PO n ps), some d, none, none] := by
    obtain ⟨o, e⟩ : ∃ o, FPlanes_planes [PO n ps] = .rt (.lst (ps.map pl)) o := by
      have := v_planes n ps []
      cases h : FPlanes_planes [PO n ps] with
      | rt y o => rw [h, Ret.R_rt] at this; cases this; exact ⟨o, rfl⟩
      | ex x o => rw [h, Ret.R_ex] at this; cases this
      | bad => rw [h] at this; cases this
    have h0 : mVar 0 [some (PO n ps), some d, none, none] = .ok (PO n ps) [some (PO n ps), some d, none, none] := rfl
    unfold mMeth
    rw [h0, bind_ok]
    unfold PO at e ⊢
    have ht : (tb [("Planes", FPlanes_planes)]) "Planes" = some FPlanes_planes := rfl
    have hl : ∀ a b : D, ([("n", a), ("kept", b)] : List (Str × D)).lookup ("planes" : Str) = none := fun _ _ => rfl
    simp only [ht, hl, Option.isNone_none, if_true, mNil_ap, bind_ok, e]
  have gi := hd.iter
  have lc := mLc_map (as := ks) (enc := fun i => D.int (i : Nat)) (vs := [3]) (g := mgName 3) (mi := mIter (mVar 1)) (me := m2 gIx (mVar 2) (mVar 3)) (ρ0 := [some (PO n ps), some d, some (.lst (ps.map pl)), none]) (ρ := [some (PO n ps), some d, some (.lst (ps.map pl)), none])
    (st := fun k => [some (PO n ps), some d, some (.lst (ps.map pl)), some (.int (k : Nat))]) (f := fun k => pl (ps.getD k [])) (by
      generalize D.lst (ps.map pl) = L at *
      generalize PO n ps = P at *
      simp -implicitDefEqProofs [gi]) (by omega) (fun _ => rfl) (fun _ _ => rfl) (fun k hk' => by
      have ix := ixP (hk k hk') (Sq.lst (ps.map pl))
      generalize pl (ps.getD k []) = X at *
      generalize D.lst (ps.map pl) = L at *
      generalize PO n ps = P at *
      simp -implicitDefEqProofs [ix])
  have em : ks.map (fun k => pl (ps.getD k [])) = (pickK ps ks).map pl := by unfold pickK; rw [List.map_map]; rfl
  rw [em] at lc
  have e : mchosen [some (PO n ps), some d, none, none] = .rt (.lst ((pickK ps ks).map pl)) [some (PO n ps), some d, some (.lst (ps.map pl)), none] := by
    generalize D.lst ((pickK ps ks).map pl) = X at *
    generalize D.lst (ps.map pl) = L at *
    generalize PO n ps = P at *
    unfold mchosen
    generalize mMeth (tb [("Planes", FPlanes_planes)]) "planes" (mVar 0) mNil = M at *
    generalize mLc [3] (mIter (mVar 1)) (mgName 3) mYes (m2 gIx (mVar 2) (mVar 3)) = mL at *
    simp -implicitDefEqProofs [hm, lc]
  have := runM_rt (n := 4) (np := 2) (dd := []) (fr := false) (m := mchosen) (ds := [PO n ps, d]) rfl e
  unfold Fchosen
  rw [this, Ret.R_rt]
theorem v_lchosenS (hd : IxS d ks) (hk : ∀ k ∈ ks, k < ps.length) (hl : ks.length ≤ 1000) (ρ : En) : (F_law_chosen [.lst (ps.map pl), d]).R ρ = .ok (.lst ((pickK ps ks).map pl)) ρ := by
  have sz := szv
  have gi := hd.iter
  have lc := mLc_map (as := ks) (enc := fun i => D.int (i : Nat)) (vs := [2]) (g := mgName 2) (mi := mIter (mVar 1)) (me := m2 gIx (mVar 0) (mVar 2)) (ρ0 := [some (.lst (ps.map pl)), some d, none]) (ρ := [some (.lst (ps.map pl)), some d, none])
    (st := fun k => [some (.lst (ps.map pl)), some d, some (.int (k : Nat))]) (f := fun k => pl (ps.getD k [])) (by
      generalize D.lst (ps.map pl) = L at *
      simp -implicitDefEqProofs [gi]) (by omega) (fun _ => rfl) (fun _ _ => rfl) (fun k hk' => by
      have ix := ixP (hk k hk') (Sq.lst (ps.map pl))
      generalize pl (ps.getD k []) = X at *
      generalize D.lst (ps.map pl) = L at *
      simp -implicitDefEqProofs [ix])
  have em : ks.map (fun k => pl (ps.getD k [])) = (pickK ps ks).map pl := by unfold pickK; rw [List.map_map]; rfl
  rw [em] at lc
  have e : m_law_chosen [some (.lst (ps.map pl)), some d, none] = .rt (.lst ((pickK ps ks).map pl)) [some (.lst (ps.map pl)), some d, none] := by
    generalize D.lst ((pickK ps ks).map pl) = X at *
    generalize D.lst (ps.map pl) = L at *
    unfold m_law_chosen
    generalize mLc [2] (mIter (mVar 1)) (mgName 2) mYes (m2 gIx (mVar 0) (mVar 2)) = mL at *
    simp -implicitDefEqProofs [lc]
  have := runM_rt (n := 3) (np := 2) (dd := []) (fr := false) (m := m_law_chosen) (ds := [.lst (ps.map pl), d]) rfl e
  unfold F_law_chosen
  rw [this, Ret.R_rt]
theorem v_lrk (hp : Pk n ps) {rows : List (List Int)} {d : D} (hd : Sq d (rows.map pl)) (hr : ∀ r ∈ rows, szR (n + 1) 4 r) (hl : rows.length ≤ 7) {w : Nat} (hw : w ≤ n + 1) (ρ : En) : (F_law_rank [d, .int (w : Nat)]).R ρ = .ok (.int (rankL w rows : Nat)) ρ := by
  have n3 := hp.n3
  exact v_lrank (m := n + 1) (w := w) hd (by omega) hw hr hl zz4 ρ
theorem v_lmetS (hp : Pk n ps) (hk : Kk ps ks) (hd : IxS d ks) (ρ : En) : (F_law_is_met [.int (n : Nat), .lst (ps.map pl), d]).R ρ = .ok (.bl (metL n ps ks)) ρ := by
  have n3 := hp.n3
  have kl := hk.len
  have vc := fun ρ => v_lchosenS (ps := ps) hd hk.lt (by omega) ρ
  have r1 := fun ρ => v_lrank (m := n + 1) (w := n) (Sq.lst ((pickK ps ks).map pl)) (by omega) (by omega) (Kk.pick hp hk) (by rw [pick_len]; omega) zz4 ρ
  have r2 := fun ρ => v_lrank (m := n + 1) (w := n + 1) (Sq.lst ((pickK ps ks).map pl)) (by omega) (by omega) (Kk.pick hp hk) (by rw [pick_len]; omega) zz4 ρ
  rw [show ((n + 1 : Nat) : Int) = (n : Int) + 1 by omega] at r2
  have q : decide ((rankL n (pickK ps ks) : Int) = (rankL (n + 1) (pickK ps ks) : Int)) = metL n ps ks := by unfold metL; rw [decide_eq_decide]; omega
  generalize D.lst ((pickK ps ks).map pl) = X at *
  generalize D.lst (ps.map pl) = L at *
  generalize (rankL n (pickK ps ks) : Int) = a at *
  generalize (rankL (n + 1) (pickK ps ks) : Int) = b at *
  generalize metL n ps ks = M at *
  generalize (n : Int) = ni at *
  simp -implicitDefEqProofs [F_law_is_met, runM, m_law_is_met, pad, mCall_R, vc, r1, r2, q]
theorem v_lclosedS (hp : Pk n ps) (hk : ∀ k ∈ ks, k < ps.length) (hl : ks.length ≤ 6) (hd : IxS d ks) (ρ : En) : (F_law_closed [.int (n : Nat), .lst (ps.map pl), d]).R ρ = .ok (tix (clL n ps ks)) ρ := by
  have sz := szv
  have n3 := hp.n3
  have l6 := hp.len
  have hkk : Kk ps ks := ⟨hk, by omega⟩
  have vc := fun ρ => v_lchosenS (ps := ps) hd hk (by omega) ρ
  have r2 := fun ρ => v_lrk hp (Sq.lst ((pickK ps ks).map pl)) (Kk.pick hp hkk) (by rw [pick_len]; omega) (Nat.le_refl (n + 1)) ρ
  rw [show ((n + 1 : Nat) : Int) = (n : Int) + 1 by omega] at r2
  have gl : gLen [.lst (ps.map pl)] = some (.int (ps.length : Nat)) := by simp [gLen]
  have rg := range1 (n := ps.length) (by omega)
  have lc := mLc_filt (as := List.range ps.length) (enc := fun k => D.int (k : Nat)) (vs := [5]) (g := mgName 5) (mi := mItN gRange1 (mCons (mN gLen (mCons (mVar 1) mNil)) mNil)) (mt := m_law_closed_t0) (me := mVar 5)
    (ρ0 := [some (.int (n : Nat)), some (.lst (ps.map pl)), some d, some (.lst ((pickK ps ks).map pl)), some (.int (rankL (n + 1) (pickK ps ks) : Nat)), none]) (ρ := [some (.int (n : Nat)), some (.lst (ps.map pl)), some d, some (.lst ((pickK ps ks).map pl)), some (.int (rankL (n + 1) (pickK ps ks) : Nat)), none])
    (st := fun k => [some (.int (n : Nat)), some (.lst (ps.map pl)), some d, some (.lst ((pickK ps ks).map pl)), some (.int (rankL (n + 1) (pickK ps ks) : Nat)), some (.int (k : Nat))]) (f := fun k => .int (k : Nat)) (p := fun k => decide (rankL (n + 1) (pickK ps ks ++ [ps.getD k []]) = rankL (n + 1) (pickK ps ks))) (by
      generalize D.lst ((pickK ps ks).map pl) = X at *
      generalize D.lst (ps.map pl) = L at *
      generalize (List.range ps.length).map (fun k => D.int (k : Nat)) = RR at *
      generalize (rankL (n + 1) (pickK ps ks) : Int) = b at *
      generalize (ps.length : Int) = pn at *
      generalize (n : Int) = ni at *
      simp -implicitDefEqProofs [gl, rg]) (by rw [List.length_range]; omega) (fun _ => rfl) (fun _ _ => rfl) (fun k hk' => by
      have lt := List.mem_range.mp hk'
      have ix := ixP lt (Sq.lst (ps.map pl))
      have ad : gAdd (.lst ((pickK ps ks).map pl)) (.lst [pl (ps.getD k [])]) = some (.lst ((pickK ps ks ++ [ps.getD k []]).map pl)) := by
        show (if ((pickK ps ks).map pl).length + 1 ≤ sizeLine then some (D.lst ((pickK ps ks).map pl ++ [pl (ps.getD k [])])) else none) = _
        rw [if_pos (by rw [List.length_map, pick_len]; omega), List.map_append]
        rfl
      have r3 := fun ρ => v_lrk hp (Sq.lst ((pickK ps ks ++ [ps.getD k []]).map pl)) (fun r hr => (List.mem_append.mp hr).elim (Kk.pick hp hkk r) fun z => by rw [List.mem_singleton.mp z]; exact hp.at lt) (by rw [List.length_append, pick_len]; simp; omega) (Nat.le_refl (n + 1)) ρ
      rw [show ((n + 1 : Nat) : Int) = (n : Int) + 1 by omega] at r3
      have q : decide ((rankL (n + 1) (pickK ps ks ++ [ps.getD k []]) : Int) = (rankL (n + 1) (pickK ps ks) : Int)) = decide (rankL (n + 1) (pickK ps ks ++ [ps.getD k []]) = rankL (n + 1) (pickK ps ks)) := by rw [decide_eq_decide]; omega
      generalize decide (rankL (n + 1) (pickK ps ks ++ [ps.getD k []]) = rankL (n + 1) (pickK ps ks)) = M at *
      generalize (rankL (n + 1) (pickK ps ks ++ [ps.getD k []]) : Int) = b1 at *
      generalize D.lst ((pickK ps ks ++ [ps.getD k []]).map pl) = X1 at *
      generalize D.lst ((pickK ps ks).map pl) = X at *
      generalize pl (ps.getD k []) = Y at *
      generalize D.lst (ps.map pl) = L at *
      generalize (rankL (n + 1) (pickK ps ks) : Int) = b at *
      generalize (n : Int) = ni at *
      simp -implicitDefEqProofs [m_law_closed_t0, mCall_R, ix, ad, r3, q, show 1 ≤ sizeLine by omega]) (fun _ _ _ => rfl)
  have em : ((List.range ps.length).filter fun k => decide (rankL (n + 1) (pickK ps ks ++ [ps.getD k []]) = rankL (n + 1) (pickK ps ks))).map (fun k => D.int (k : Nat)) = (clL n ps ks).map fun k => D.int (k : Nat) := rfl
  rw [em] at lc
  have gt : gTuple [.lst ((clL n ps ks).map fun k => D.int (k : Nat))] = some (tix (clL n ps ks)) := rfl
  have e : m_law_closed [some (.int (n : Nat)), some (.lst (ps.map pl)), some d, none, none, none] = .rt (tix (clL n ps ks)) [some (.int (n : Nat)), some (.lst (ps.map pl)), some d, some (.lst ((pickK ps ks).map pl)), some (.int (rankL (n + 1) (pickK ps ks) : Nat)), none] := by
    unfold m_law_closed
    generalize mLc [5] (mItN gRange1 (mCons (mN gLen (mCons (mVar 1) mNil)) mNil)) (mgName 5) m_law_closed_t0 (mVar 5) = M at *
    generalize tix (clL n ps ks) = Z at *
    generalize D.lst ((clL n ps ks).map fun k => D.int (k : Nat)) = Y at *
    generalize D.lst ((pickK ps ks).map pl) = X at *
    generalize D.lst (ps.map pl) = L at *
    generalize (rankL (n + 1) (pickK ps ks) : Int) = b at *
    generalize (n : Int) = ni at *
    simp -implicitDefEqProofs [mCall_R, vc, r2, lc, gt]
  have := runM_rt (n := 6) (np := 3) (dd := []) (fr := false) (m := m_law_closed) (ds := [.int (n : Nat), .lst (ps.map pl), d]) rfl e
  unfold F_law_closed
  rw [this, Ret.R_rt]
end
end Q
namespace Q
open DL PySem PySem.Spec PyProof.Rows
section
variable {n B : Nat}
theorem sp0_len {S : List Own} (h : Sp0 n S) : S.length ≤ n := by
  have a := (tri_nodup h.sf.tri).2
  have := nodup_le (m := List.range n) a fun x hx => by
    obtain ⟨e, he, rfl⟩ := List.mem_map.mp hx
    exact List.mem_range.mpr (h.lt e he)
  rw [List.length_map, List.length_range] at this
  exact this
theorem v_spanW {rows : List (List Int)} {d : D} (hd : Sq d (rows.map pl)) (hn : n + 1 ≤ 1000) (hr : ∀ r ∈ rows, szR (n + 1) B r) (hn3 : n ≤ 3) (hz : zz B 8 ≤ 8000) (ρ : En) : (Fspan_of_rows [.int (n : Nat), .int 0, d]).R ρ = .ok (oSp n (spanP n [] rows)) ρ := by
  have sz := szv
  have lp : ∀ (rs : List (List Int)) (S : List Own) (o4 o5 o6 : Option D), (∀ r ∈ rs, szR (n + 1) B r) → SzF (n + 1) n B S → Sp0 n S →
      ∃ ρ', loopL (mgName 4) mspan_of_rows_b0 (rs.map pl) (Eo n d (SpD n S) o4 o5 o6) = (match spanP n S rs with
        | some T => .nx (Eo n d (SpD n T) (ρ'.getD 0 none) (ρ'.getD 1 none) (ρ'.getD 2 none))
        | none => .rt .non ρ') := by
    intro rs
    induction rs with
    | nil => exact fun S o4 o5 o6 _ _ _ => ⟨[o4, o5, o6], rfl⟩
    | cons r rs ih =>
      intro S o4 o5 o6 h hS h0
      have hl' : S.length ≤ 6 := by have := sp0_len h0; omega
      have hr1 := h r List.mem_cons_self
      obtain ⟨x1, v1⟩ := v_rest hn hr1 hS (by omega) hz
      have sr := restP_sz hr1 hS
      obtain ⟨x2, v2⟩ := v_placeOf (S := S) (by omega) sr.1
      have iN := ix_row (row := restP S r) (j := n) (by rw [sr.1]; omega)
      have a1 : (msAsg (mMeth (tb [("Span", FSpan_rest)]) "rest" (mVar 3) (mCons (mVar 4) mNil)) (mgName 5)) (Eo n d (SpD n S) (some (pl r)) o5 o6) = .nx (Eo n d (SpD n S) (some (pl r)) (some (pl (restP S r))) o6) := by
        have m := meth_sp (tab := tb [("Span", FSpan_rest)]) (mn := "rest") (o := mVar 3) (args := mCons (mVar 4) mNil) (ρ := Eo n d (SpD n S) (some (pl r)) o5 o6) rfl rfl rfl (fun _ _ _ => rfl) v1
        generalize mMeth (tb [("Span", FSpan_rest)]) "rest" (mVar 3) (mCons (mVar 4) mNil) = M at *
        generalize pl (restP S r) = X at *
        generalize pl r = P at *
        generalize SpD n S = SP at *
        simp -implicitDefEqProofs [m]
      have a2 : (msAsg (mMeth (tb [("Span", FSpan_place_of)]) "place_of" (mVar 3) (mCons (mVar 5) mNil)) (mgName 6)) (Eo n d (SpD n S) (some (pl r)) (some (pl (restP S r))) o6) = .nx (Eo n d (SpD n S) (some (pl r)) (some (pl (restP S r))) (some (oN (firstNZ n (restP S r))))) := by
        have m := meth_sp (tab := tb [("Span", FSpan_place_of)]) (mn := "place_of") (o := mVar 3) (args := mCons (mVar 5) mNil) (ρ := Eo n d (SpD n S) (some (pl r)) (some (pl (restP S r))) o6) rfl rfl rfl (fun _ _ _ => rfl) v2
        generalize mMeth (tb [("Span", FSpan_place_of)]) "place_of" (mVar 3) (mCons (mVar 5) mNil) = M at *
        generalize oN (firstNZ n (restP S r)) = Y at *
        generalize pl (restP S r) = X at *
        generalize pl r = P at *
        generalize SpD n S = SP at *
        simp -implicitDefEqProofs [m]
      have g : mgName 4 (pl r) (Eo n d (SpD n S) o4 o5 o6) = .ok () (Eo n d (SpD n S) (some (pl r)) o5 o6) := rfl
      have un : spanP n S (r :: rs) = (match firstNZ n (restP S r) with
        | some p => spanP n (S ++ [(p, restP S r)]) rs
        | none => if (restP S r).getD n 0 ≠ 0 then none else spanP n S rs) := rfl
      rw [un]
      cases c : firstNZ n (restP S r) with
      | some p =>
        rw [c] at a2
        have lt := nzs_lt c
        obtain ⟨x3, v3⟩ := v_with (n := n) (S := S) (r := restP S r) p (by omega)
        have b : mspan_of_rows_b0 (Eo n d (SpD n S) (some (pl r)) o5 o6) = .nx (Eo n d (SpD n (S ++ [(p, restP S r)])) (some (pl r)) (some (pl (restP S r))) (some (.int (p : Nat)))) := by
          have m := meth_sp (tab := tb [("Span", FSpan_with_rest)]) (mn := "with_rest") (o := mVar 3) (args := mCons (mVar 6) (mCons (mVar 5) mNil)) (ρ := Eo n d (SpD n S) (some (pl r)) (some (pl (restP S r))) (some (.int (p : Nat)))) rfl rfl rfl (fun _ _ _ => rfl) v3
          unfold mspan_of_rows_b0
          rw [seq_nx a1, seq_nx a2]
          show msIf _ _ _ (Eo n d (SpD n S) (some (pl r)) (some (pl (restP S r))) (some (.int (p : Nat)))) = _
          have gi : isNon (.int (p : Nat)) = false := rfl
          generalize mMeth (tb [("Span", FSpan_with_rest)]) "with_rest" (mVar 3) (mCons (mVar 6) (mCons (mVar 5) mNil)) = M at *
          generalize SpD n (S ++ [(p, restP S r)]) = Y at *
          generalize pl (restP S r) = X at *
          generalize pl r = P at *
          generalize SpD n S = SP at *
          simp -implicitDefEqProofs [m, gi]
        obtain ⟨ρ', e⟩ := ih (S ++ [(p, restP S r)]) (some (pl r)) (some (pl (restP S r))) (some (.int (p : Nat))) (fun x hx => h x (List.mem_cons_of_mem _ hx)) (hS.snoc lt.1 sr) (h0.snoc hr1.1 c)
        refine ⟨ρ', ?_⟩
        rw [List.map_cons, loop_step g b, e]
      | none =>
        rw [c] at a2
        have gn : isNon .non = true := rfl
        by_cases q : (restP S r).getD n 0 = 0
        · rw [if_neg (by simpa using q)]
          have b : mspan_of_rows_b0 (Eo n d (SpD n S) (some (pl r)) o5 o6) = .nx (Eo n d (SpD n S) (some (pl r)) (some (pl (restP S r))) (some .non)) := by
            unfold mspan_of_rows_b0
            rw [seq_nx a1, seq_nx a2]
            show msIf _ _ _ (Eo n d (SpD n S) (some (pl r)) (some (pl (restP S r))) (some .non)) = _
            rw [q] at iN
            generalize pl (restP S r) = X at *
            generalize pl r = P at *
            generalize SpD n S = SP at *
            simp -implicitDefEqProofs [gn, iN]
          obtain ⟨ρ', e⟩ := ih S (some (pl r)) (some (pl (restP S r))) (some .non) (fun x hx => h x (List.mem_cons_of_mem _ hx)) hS h0
          refine ⟨ρ', ?_⟩
          rw [List.map_cons, loop_step g b, e]
        · rw [if_pos q]
          have b : mspan_of_rows_b0 (Eo n d (SpD n S) (some (pl r)) o5 o6) = .rt .non (Eo n d (SpD n S) (some (pl r)) (some (pl (restP S r))) (some .non)) := by
            unfold mspan_of_rows_b0
            rw [seq_nx a1, seq_nx a2]
            show msIf _ _ _ (Eo n d (SpD n S) (some (pl r)) (some (pl (restP S r))) (some .non)) = _
            generalize (restP S r).getD n 0 = z at *
            generalize pl (restP S r) = X at *
            generalize pl r = P at *
            generalize SpD n S = SP at *
            simp -implicitDefEqProofs [gn, iN, q]
          refine ⟨Eo n d (SpD n S) (some (pl r)) (some (pl (restP S r))) (some .non), ?_⟩
          rw [List.map_cons]
          simp only [loopL, g, b]
  obtain ⟨ρ', e⟩ := lp rows [] none none none hr SzF.nil Sp0.nil
  have hit := hd.iter
  have mk : mMake "Span" FSpan_init (mCons (mVar 0) (mCons (mVar 1) mNil)) [some (.int (n : Nat)), some (.int 0), some d, none, none, none, none] = .ok (SpD n []) [some (.int (n : Nat)), some (.int 0), some d, none, none, none, none] := by
    have ha : (mCons (mVar 0) (mCons (mVar 1) mNil)) [some (.int (n : Nat)), some (.int 0), some d, none, none, none, none] = .ok [.int (n : Nat), .int 0] [some (.int (n : Nat)), some (.int 0), some d, none, none, none, none] := rfl
    unfold mMake
    rw [ha, bind_ok, v_spInit]
  have e0 : (msAsg (mMake "Span" FSpan_init (mCons (mVar 0) (mCons (mVar 1) mNil))) (mgName 3)) [some (.int (n : Nat)), some (.int 0), some d, none, none, none, none] = .nx (Eo n d (SpD n []) none none none) := by
    generalize mMake "Span" FSpan_init (mCons (mVar 0) (mCons (mVar 1) mNil)) = M at *
    generalize SpD n [] = SP at *
    simp -implicitDefEqProofs [mk]
  have e1 : (msFor (mIter (mVar 2)) (mgName 4) mspan_of_rows_b0) (Eo n d (SpD n []) none none none) = (match spanP n [] rows with
        | some T => .nx (Eo n d (SpD n T) (ρ'.getD 0 none) (ρ'.getD 1 none) (ρ'.getD 2 none))
        | none => .rt .non ρ') := by
    rw [← e]
    clear e lp
    generalize rows.map pl = L at *
    generalize SpD n [] = SP at *
    generalize mspan_of_rows_b0 = B1 at *
    simp -implicitDefEqProofs [hit]
  have go : ∃ ρ2, mspan_of_rows [some (.int (n : Nat)), some (.int 0), some d, none, none, none, none] = .rt (oSp n (spanP n [] rows)) ρ2 := by
    unfold mspan_of_rows
    rw [seq_nx e0]
    cases c : spanP n [] rows with
    | none => rw [c] at e1; exact ⟨_, seq_rt e1⟩
    | some T => rw [c] at e1; exact ⟨_, by rw [seq_nx e1]; rfl⟩
  obtain ⟨ρ2, go⟩ := go
  have := runM_rt (n := 7) (np := 3) (dd := []) (fr := false) (m := mspan_of_rows) (ds := [.int (n : Nat), .int 0, d]) rfl go
  unfold Fspan_of_rows
  rw [this, Ret.R_rt]
end
section
variable {n : Nat} {ps : List (List Int)} {ks : List Nat} {as : List Int} {d : D}
theorem meth_pls {tab : Str → Option FN} {o : ME} {ρ : En} (h0 : o ρ = .ok (PO n ps) ρ) (ht : tab "Planes" = some FPlanes_planes) : mMeth tab "planes" o mNil ρ = .ok (.lst (ps.map pl)) ρ := by
  obtain ⟨o', e⟩ : ∃ o, FPlanes_planes [PO n ps] = .rt (.lst (ps.map pl)) o := by
    have := v_planes n ps []
    cases h : FPlanes_planes [PO n ps] with
    | rt y o => rw [h, Ret.R_rt] at this; cases this; exact ⟨o, rfl⟩
    | ex x o => rw [h, Ret.R_ex] at this; cases this
    | bad => rw [h] at this; cases this
  unfold mMeth
  rw [h0, bind_ok]
  unfold PO at e ⊢
  have hl : ∀ a b : D, ([("n", a), ("kept", b)] : List (Str × D)).lookup ("planes" : Str) = none := fun _ _ => rfl
  simp only [ht, hl, Option.isNone_none, if_true, mNil_ap, bind_ok, e]
theorem sz_pick (hp : Pk n ps) (hk : ∀ k ∈ ks, k < ps.length) : ∀ r ∈ pickK ps ks, szR (n + 1) 4 r := fun r hr => by
  obtain ⟨k, hk2, rfl⟩ := List.mem_map.mp hr
  exact hp.at (hk k hk2)
theorem v_spanAtS (hp : Pk n ps) (hk : ∀ k ∈ ks, k < ps.length) (hl : ks.length ≤ 100) (hd : IxS d ks) (ρ : En) : (Fspan_at [PO n ps, d]).R ρ = .ok (oSp n (spanP n [] (pickK ps ks))) ρ := by
  have n3 := hp.n3
  have vc := fun ρ => v_chosenS (n := n) (ps := ps) hd hk (by omega) ρ
  have vs := fun ρ => v_spanW (n := n) (Sq.lst ((pickK ps ks).map pl)) (by omega) (sz_pick hp hk) n3 zz4 ρ
  have f := fld_n (n := n) (ps := ps)
  generalize oSp n (spanP n [] (pickK ps ks)) = Y at *
  generalize D.lst ((pickK ps ks).map pl) = X at *
  generalize PO n ps = P at *
  generalize (n : Int) = ni at *
  simp -implicitDefEqProofs [Fspan_at, runM, mspan_at, pad, mCall_R, vc, vs, f]
theorem span_cl (hp : Pk n ps) (hk : ∀ k ∈ ks, k < ps.length) {S : List Own} (e : spanP n [] (pickK ps ks) = some S) : SzF (n + 1) n 4 S ∧ S.length ≤ 6 ∧ clP S ps = clL n ps ks := by
  obtain ⟨a, b⟩ := span_some (pickK_len1 hp.rows hk) e
  have l := sp0_len a
  have n3 := hp.n3
  refine ⟨?_, by omega, clP_eq hp.rows hk a.sf b⟩
  have go : ∀ (rows : List (List Int)) (S T : List Own), (∀ r ∈ rows, szR (n + 1) 4 r) → SzF (n + 1) n 4 S → spanP n S rows = some T → SzF (n + 1) n 4 T := by
    intro rows
    induction rows with
    | nil => exact fun S T _ h e => by cases e; exact h
    | cons r rows ih =>
      intro S T hr h e
      have hr2 : ∀ x ∈ rows, szR (n + 1) 4 x := fun x hx => hr x (List.mem_cons_of_mem _ hx)
      have un : spanP n S (r :: rows) = match firstNZ n (restP S r) with
        | some p => spanP n (S ++ [(p, restP S r)]) rows
        | none => if (restP S r).getD n 0 ≠ 0 then none else spanP n S rows := rfl
      rw [un] at e
      cases c : firstNZ n (restP S r) with
      | some p =>
        rw [c] at e
        exact ih _ _ hr2 (h.snoc (nzs_lt c).1 (restP_sz (hr r List.mem_cons_self) h)) e
      | none =>
        rw [c] at e
        have e : (if (restP S r).getD n 0 ≠ 0 then none else spanP n S rows) = some T := e
        split at e
        · cases e
        · exact ih _ _ hr2 h e
  exact go _ [] S (sz_pick hp hk) .nil e
theorem v_closedAt (hp : Pk n ps) (hk : ∀ k ∈ ks, k < ps.length) {S : List Own} (e : spanP n [] (pickK ps ks) = some S) (ρ : En) : (Fclosed_v2 [oSp n (some S), .lst (ps.map pl)]).R ρ = .ok (tix (clL n ps ks)) ρ := by
  obtain ⟨a, b, c⟩ := span_cl hp hk e
  rw [← c]
  exact v_closedP hp a b ρ
theorem met_span (hp : Pk n ps) (hk : ∀ k ∈ ks, k < ps.length) : metL n ps ks = (spanP n [] (pickK ps ks)).isSome := by
  rw [Bool.eq_iff_iff, met_iff hp.rows hk, span_is (pickK_len1 hp.rows hk)]
theorem v_meetsS (hp : Pk n ps) (hk : ∀ k ∈ ks, k < ps.length) (hl : ks.length ≤ 100) (hd : IxS d ks) (ρ : En) : (Fmeets [PO n ps, d]).R ρ = .ok (.bl (metL n ps ks)) ρ := by
  have l6 := hp.len
  have v1 := fun ρ => v_placesS (n := n) (ps := ps) hd.ints (by omega) ρ
  simp only [inRA_k hk, if_true] at v1
  have va := fun ρ => v_spanAtS hp hk hl hd ρ
  have gi0 : ∀ o : Option (List Own), isNon (oSp n o) = !o.isSome := fun o => by cases o <;> rfl
  have gi := gi0 (spanP n [] (pickK ps ks))
  clear gi0
  rw [met_span hp hk]
  generalize (spanP n [] (pickK ps ks)).isSome = b at *
  generalize oSp n (spanP n [] (pickK ps ks)) = Y at *
  generalize PO n ps = P at *
  simp -implicitDefEqProofs [Fmeets, runM, mmeets, pad, mCall_R, v1, va, gi]
theorem v_flatOfS (hp : Pk n ps) (hk : ∀ k ∈ ks, k < ps.length) (hl : ks.length ≤ 100) (hd : IxS d ks) (ρ : En) : (Fflat_of_v2 [PO n ps, d]).R ρ = if metL n ps ks = true then .ok (tix (clL n ps ks)) ρ else .ex ⟨"NoAnswer", []⟩ ρ := by
  have l6 := hp.len
  have v1 := fun ρ => v_placesS (n := n) (ps := ps) hd.ints (by omega) ρ
  simp only [inRA_k hk, if_true] at v1
  have va := fun ρ => v_spanAtS hp hk hl hd ρ
  have vm := fun ρ : En => fun h0 => meth_pls (n := n) (ps := ps) (tab := tb [("Planes", FPlanes_planes)]) (o := mVar 0) (ρ := ρ) h0 rfl
  rw [met_span hp hk]
  cases e : spanP n [] (pickK ps ks) with
  | none =>
    rw [e] at va
    have gi : isNon (oSp n none) = true := rfl
    generalize oSp n none = Y at *
    generalize PO n ps = P at *
    simp -implicitDefEqProofs [Fflat_of_v2, runM, mflat_of_v2, pad, mCall_R, v1, va, gi]
  | some S =>
    rw [e] at va
    have gi : isNon (oSp n (some S)) = false := rfl
    have vc := fun ρ => v_closedAt hp hk e ρ
    have vm1 := vm [some (PO n ps), some d, some (oSp n (some S))] rfl
    clear vm
    unfold Fflat_of_v2 mflat_of_v2
    generalize mMeth (tb [("Planes", FPlanes_planes)]) "planes" (mVar 0) mNil = M at *
    generalize tix (clL n ps ks) = Z at *
    generalize oSp n (some S) = Y at *
    generalize PO n ps = P at *
    generalize D.lst (ps.map pl) = L at *
    simp -implicitDefEqProofs [runM, pad, mCall_R, v1, va, gi, vc, vm1]
end
end Q
namespace Q
open DL PySem PySem.Spec PyProof.Rows
section
variable {n : Nat} {ps : List (List Int)} {ks : List Nat} {as : List Int} {d : D}
theorem v_rankOfS (hp : Pk n ps) (hk : ∀ k ∈ ks, k < ps.length) (hl : ks.length ≤ 100) (hd : IxS d ks) {S : List Own} (hS : spanP n [] ((pickK ps ks).map (zeroL n)) = some S) (ρ : En) : (Frank_of [PO n ps, d]).R ρ = .ok (.int (S.length : Nat)) ρ := by
  have sz := szv
  have n3 := hp.n3
  have l6 := hp.len
  have v1 := fun ρ => v_placesS (n := n) (ps := ps) hd.ints (by omega) ρ
  simp only [inRA_k hk, if_true] at v1
  have vc := fun ρ => v_chosenS (n := n) (ps := ps) hd hk (by omega) ρ
  have hz : ∀ r ∈ (pickK ps ks).map (zeroL n), szR (n + 1) 4 r := fun r hr => by
    obtain ⟨q, hq, rfl⟩ := List.mem_map.mp hr
    exact zero_sz (sz_pick hp hk q hq)
  have vs := fun ρ => v_spanW (n := n) (Sq.lst (((pickK ps ks).map (zeroL n)).map pl)) (by omega) hz n3 zz4 ρ
  rw [hS] at vs
  have f := fld_n (n := n) (ps := ps)
  have f3 : gFld (DL.isC ["Span"]) "rows" (oSp n (some S)) = some (.lst (S.map ownD)) := rfl
  have gl : gLen [.lst (S.map ownD)] = some (.int (S.length : Nat)) := by simp [gLen]
  have lc := mLc_map (as := pickK ps ks) (enc := pl) (vs := [3]) (g := mgName 3) (mi := mIter (mCall Fchosen (mCons (mVar 0) (mCons (mVar 1) mNil)))) (me := mrank_of_e0) (ρ0 := [some (PO n ps), some (d), none, none]) (ρ := [some (PO n ps), some (d), none, none])
    (st := fun r => [some (PO n ps), some (d), none, some (pl r)]) (f := fun r => pl (zeroL n r)) (by
      have gi : gIter (.lst ((pickK ps ks).map pl)) = some ((pickK ps ks).map pl) := rfl
      generalize (pickK ps ks).map pl = X at *
      generalize PO n ps = P at *
      simp -implicitDefEqProofs [mCall_R, vc, gi]) (by rw [pick_len]; omega) (fun _ => rfl) (fun _ _ => rfl) (fun r hr => by
      have hr2 := sz_pick hp hk r hr
      have s := sl_pm1W hr2.1
      have a := add_pl (a := r.take n) (b := [0]) (by rw [List.length_take]; simp; omega)
      have e0 : pl [0] = .tup [.int 0] := rfl
      have ez : r.take n ++ [0] = zeroL n r := rfl
      rw [e0, ez] at a
      generalize pl (zeroL n r) = Z at *
      generalize pl (r.take n) = Y at *
      generalize pl r = R at *
      generalize PO n ps = P at *
      simp -implicitDefEqProofs [mrank_of_e0, mSl, evB, rdB, mNoP, mPart, asI, s, a, show 1 ≤ sizeLine by omega])
  have em : (pickK ps ks).map (fun r => pl (zeroL n r)) = ((pickK ps ks).map (zeroL n)).map pl := by rw [List.map_map]; rfl
  rw [em] at lc
  generalize oSp n (some S) = Y at *
  generalize D.lst (S.map ownD) = SL at *
  generalize D.lst (((pickK ps ks).map (zeroL n)).map pl) = X at *
  generalize PO n ps = P at *
  generalize (S.length : Int) = sl at *
  generalize (n : Int) = ni at *
  unfold Frank_of mrank_of
  generalize mLc [3] (mIter (mCall Fchosen (mCons (mVar 0) (mCons (mVar 1) mNil)))) (mgName 3) mYes mrank_of_e0 = mL at *
  simp -implicitDefEqProofs [runM, pad, mCall_R, v1, lc, vs, f, f3, gl]
theorem v_rankS (hp : Pk n ps) (hk : ∀ k ∈ ks, k < ps.length) (hl : ks.length ≤ 100) (hd : IxS d ks) (ρ : En) : (Frank_of [PO n ps, d]).R ρ = .ok (.int (rankL n (pickK ps ks) : Nat)) ρ := by
  obtain ⟨T, h1, h2⟩ := span_rank (pickK_len1 hp.rows hk)
  rw [v_rankOfS hp hk hl hd h1, h2]
theorem eq_tix (a b : List Nat) : gEq (tix a) (tix b) = some (.bl (decide (a = b))) := gEq_pd (pd_tix a) (pd_tix b) (by decide) (by decide) (P := a = b) tix_inj
abbrev Eif (n : Nat) (ps : List (List Int)) (d : D) (o : Option D) : En := [some (PO n ps), some d, none, o]
theorem if_rng (hl : ps.length ≤ 1000) (ha : as.length ≤ 100) (o : Option D) : (mN gAll (mCons (mLc [2] (mIter (mVar 1)) (mgName 2) mYes mis_flat_v2_e0) mNil)) (Eif n ps (ixA as) o) = .ok (.bl (inRA ps.length as)) (Eif n ps (ixA as) o) := by
  have sz := szv
  have lx := lenX_po (n := n) hl
  have lc := mLc_map (as := as) (enc := D.int) (vs := [2]) (g := mgName 2) (mi := mIter (mVar 1)) (me := mis_flat_v2_e0) (ρ0 := Eif n ps (ixA as) o) (ρ := Eif n ps (ixA as) o)
    (st := fun a => [some (PO n ps), some (ixA as), some (.int a), o]) (f := fun a => .bl (decide (0 ≤ a ∧ a < ps.length))) rfl (by omega) (fun _ => rfl) (fun _ _ => rfl) (fun a _ => by
      by_cases c1 : 0 ≤ a
      · by_cases c2 : a < ps.length
        · rw [decide_eq_true (And.intro c1 c2)]
          generalize PO n ps = P at *
          generalize ixA as = A at *
          generalize (ps.length : Int) = L at *
          simp -implicitDefEqProofs [mis_flat_v2_e0, mChain, lx, c1, c2]
        · rw [decide_eq_false (fun z => c2 z.2)]
          generalize PO n ps = P at *
          generalize ixA as = A at *
          generalize (ps.length : Int) = L at *
          simp -implicitDefEqProofs [mis_flat_v2_e0, mChain, lx, c1, c2]
      · rw [decide_eq_false (fun z => c1 z.1)]
        generalize PO n ps = P at *
        generalize ixA as = A at *
        generalize (ps.length : Int) = L at *
        simp -implicitDefEqProofs [mis_flat_v2_e0, mChain, lx, c1])
  have ga := gAll_map (fun a : Int => decide (0 ≤ a ∧ a < ps.length)) as
  have er : (as.all fun a => decide (0 ≤ a ∧ a < ps.length)) = inRA ps.length as := rfl
  rw [er] at ga
  generalize mLc [2] (mIter (mVar 1)) (mgName 2) mYes mis_flat_v2_e0 = M at *
  generalize D.lst (as.map fun a : Int => D.bl (decide (0 ≤ a ∧ a < (ps.length : Int)))) = X at *
  generalize PO n ps = P at *
  generalize ixA as = A at *
  simp -implicitDefEqProofs [lc, ga]
theorem v_isFlatN (hp : Pk n ps) (ha : as.length ≤ 100) (h : (ascBA as && inRA ps.length as) = false) (ρ : En) : (Fis_flat_v2 [PO n ps, ixA as]).R ρ = .ok (.bl false) ρ := by
  have l6 := hp.len
  have va := fun ρ => v_ascends ha ρ
  have vr := if_rng (n := n) (ps := ps) (as := as) (by omega) ha none
  unfold Eif at vr
  unfold Fis_flat_v2 mis_flat_v2
  generalize (mN gAll (mCons (mLc [2] (mIter (mVar 1)) (mgName 2) mYes mis_flat_v2_e0) mNil)) = M at *
  generalize PO n ps = P at *
  generalize ixA as = A at *
  cases c1 : ascBA as with
  | false =>
    rw [c1] at va
    simp -implicitDefEqProofs [runM, pad, mCall_R, va]
  | true =>
    rw [c1] at va h
    have c2 : inRA ps.length as = false := h
    rw [c2] at vr
    simp -implicitDefEqProofs [runM, pad, mCall_R, va, vr]
theorem tix_ix (ks : List Nat) : tix ks = ixA (ks.map fun i : Nat => (i : Int)) := tix_z ks
theorem v_isFlatK (hp : Pk n ps) (hk : ∀ k ∈ ks, k < ps.length) (hl : ks.length ≤ 100) (ha : ascBA (ks.map fun i : Nat => (i : Int)) = true) (ρ : En) : (Fis_flat_v2 [PO n ps, tix ks]).R ρ = .ok (.bl (metL n ps ks && decide (clL n ps ks = ks))) ρ := by
  have l6 := hp.len
  have vr := if_rng (n := n) (ps := ps) (as := ks.map fun i : Nat => (i : Int)) (by omega) (by rw [List.length_map]; omega) none
  have va := fun ρ => v_ascends (as := ks.map fun i : Nat => (i : Int)) (by rw [List.length_map]; omega) ρ
  rw [inRA_k hk] at vr
  rw [ha] at va
  rw [← tix_ix] at vr va
  have vs := fun ρ => v_spanAtS hp hk hl (IxS.tix ks) ρ
  have vm := fun ρ : En => fun h0 => meth_pls (n := n) (ps := ps) (tab := tb [("Planes", FPlanes_planes)]) (o := mVar 0) (ρ := ρ) h0 rfl
  unfold Eif at vr
  rw [met_span hp hk]
  cases e : spanP n [] (pickK ps ks) with
  | none =>
    rw [e] at vs
    have gi : isNon (oSp n none) = true := rfl
    unfold Fis_flat_v2 mis_flat_v2
    generalize (mN gAll (mCons (mLc [2] (mIter (mVar 1)) (mgName 2) mYes mis_flat_v2_e0) mNil)) = M at *
    generalize oSp n none = Y at *
    generalize PO n ps = P at *
    generalize tix ks = A at *
    simp -implicitDefEqProofs [runM, pad, mCall_R, va, vr, vs, gi, mAnd]
  | some S =>
    rw [e] at vs
    have gi : isNon (oSp n (some S)) = false := rfl
    have vc := fun ρ => v_closedAt hp hk e ρ
    have vm1 := vm [some (PO n ps), some (tix ks), none, some (oSp n (some S))] rfl
    have ge := eq_tix (clL n ps ks) ks
    clear vm
    unfold Fis_flat_v2 mis_flat_v2
    generalize (mN gAll (mCons (mLc [2] (mIter (mVar 1)) (mgName 2) mYes mis_flat_v2_e0) mNil)) = M at *
    generalize mMeth (tb [("Planes", FPlanes_planes)]) "planes" (mVar 0) mNil = M2 at *
    generalize decide (clL n ps ks = ks) = b at *
    generalize tix (clL n ps ks) = Z at *
    generalize oSp n (some S) = Y at *
    generalize PO n ps = P at *
    generalize tix ks = A at *
    generalize D.lst (ps.map pl) = L at *
    simp -implicitDefEqProofs [runM, pad, mCall_R, va, vr, vs, gi, mAnd, vc, vm1, ge]
end
end Q
namespace Q
open DL PySem PySem.Spec PyProof.Rows
section
variable {n : Nat} {ps : List (List Int)} {f g : List Nat} {d : D}
abbrev NF : Xn := ⟨"NotFlat", []⟩
theorem cl_asc (n : Nat) (ps : List (List Int)) (ks : List Nat) : (clL n ps ks).Pairwise (· < ·) := List.pairwise_lt_range.filter _
theorem isFl.asc (h : isFl n ps f) : f.Pairwise (· < ·) := by rw [h.2.2]; exact cl_asc n ps f
theorem isFl.len (hp : Pk n ps) (h : isFl n ps f) : f.length ≤ 6 := by
  have := (subs_mem (show f ∈ subsL ps.length by rw [h.2.2]; exact subs_filter _ _)).1
  have := hp.len
  omega
theorem isFl.kk (hp : Pk n ps) (h : isFl n ps f) : Kk ps f := ⟨h.1, h.len hp⟩
theorem v_isFl (hp : Pk n ps) (h : isFl n ps f) (ρ : En) : (Fis_flat_v2 [PO n ps, tix f]).R ρ = .ok (.bl true) ρ := by
  rw [v_isFlatK hp h.1 (by have := h.len hp; omega) (onlyOk h.asc h.1).2, (met_iff hp.rows h.1).mpr h.2.1, ← h.2.2, decide_eq_true rfl]
  rfl
theorem v_chkFl (h : ∀ ρ, (Fis_flat_v2 [PO n ps, d]).R ρ = .ok (.bl true) ρ) (ρ : En) : (Fcheck_flat_v2 [PO n ps, d]).R ρ = .ok .non ρ := by
  generalize PO n ps = P at *
  simp -implicitDefEqProofs [Fcheck_flat_v2, runM, mcheck_flat_v2, pad, mCall_R, h]
theorem v_chkNo (h : ∀ ρ, (Fis_flat_v2 [PO n ps, d]).R ρ = .ok (.bl false) ρ) (ρ : En) : (Fcheck_flat_v2 [PO n ps, d]).R ρ = .ex NF ρ := by
  generalize PO n ps = P at *
  simp -implicitDefEqProofs [Fcheck_flat_v2, runM, mcheck_flat_v2, pad, mCall_R, h]
theorem dim_go {P T : D} {a b : Int} (v1 : ∀ ρ, (Fcheck_flat_v2 [P, T]).R ρ = .ok .non ρ) (v2 : ∀ ρ, (Frank_of [P, T]).R ρ = .ok (.int b) ρ) (fl : gFld (DL.isC ["Planes"]) "n" P = some (.int a)) (ρ : En) : (Fflat_dimension_v2 [P, T]).R ρ = .ok (.int (a - b)) ρ := by
  have g : gSub (.int a) (.int b) = some (.int (a - b)) := rfl
  generalize a - b = c at *
  simp -implicitDefEqProofs [Fflat_dimension_v2, runM, mflat_dimension_v2, pad, mCall_R, v1, v2, fl, g]
theorem v_flatDim (hp : Pk n ps) (h : isFl n ps f) (ρ : En) : (Fflat_dimension_v2 [PO n ps, tix f]).R ρ = .ok (.int (n - rankL n (pickK ps f))) ρ :=
  dim_go (fun ρ => v_chkFl (fun ρ => v_isFl hp h ρ) ρ) (fun ρ => v_rankS hp h.1 (by have := h.len hp; omega) (IxS.tix f) ρ) (fld_n (n := n) (ps := ps)) ρ
theorem v_flatDimNo (h : ∀ ρ, (Fis_flat_v2 [PO n ps, d]).R ρ = .ok (.bl false) ρ) (ρ : En) : (Fflat_dimension_v2 [PO n ps, d]).R ρ = .ex NF ρ := by
  have v1 := fun ρ => v_chkNo h ρ
  generalize PO n ps = P at *
  simp -implicitDefEqProofs [Fflat_dimension_v2, runM, mflat_dimension_v2, pad, mCall_R, v1]
theorem v_spanOf (hp : Pk n ps) (h : isFl n ps f) (h' : isFl n ps g) (ρ : En) : (Fspan_of_v2 [PO n ps, tix f, tix g]).R ρ = .ok (tix (f.filter fun x => decide (x ∈ g))) ρ := by
  have sz := szv
  have v1 := fun ρ => v_chkFl (fun ρ => v_isFl hp h ρ) ρ
  have v2 := fun ρ => v_chkFl (fun ρ => v_isFl hp h' ρ) ρ
  have lc := mLc_filt (as := f) (enc := fun k => D.int (k : Nat)) (vs := [3]) (g := mgName 3) (mi := mIter (mVar 1)) (mt := mspan_of_v2_t0) (me := mVar 3) (ρ0 := [some (PO n ps), some (tix f), some (tix g), none]) (ρ := [some (PO n ps), some (tix f), some (tix g), none])
    (st := fun k => [some (PO n ps), some (tix f), some (tix g), some (.int (k : Nat))]) (f := fun k => .int (k : Nat)) (p := fun x => decide (x ∈ g)) rfl (by have := h.len hp; omega) (fun _ => rfl) (fun _ _ => rfl) (fun k _ => by
      have ix := in_tx2 g k
      generalize PO n ps = P at *
      generalize tix f = F at *
      generalize tix g = G at *
      simp -implicitDefEqProofs [mspan_of_v2_t0, ix]) (fun _ _ _ => rfl)
  have gt : gTuple [.lst ((f.filter fun x => decide (x ∈ g)).map fun k => D.int (k : Nat))] = some (tix (f.filter fun x => decide (x ∈ g))) := rfl
  generalize tix (f.filter fun x => decide (x ∈ g)) = Z at *
  generalize D.lst ((f.filter fun x => decide (x ∈ g)).map fun k => D.int (k : Nat)) = Y at *
  unfold Fspan_of_v2 mspan_of_v2
  generalize mLc [3] (mIter (mVar 1)) (mgName 3) mspan_of_v2_t0 (mVar 3) = M at *
  generalize PO n ps = P at *
  generalize tix f = F at *
  generalize tix g = G at *
  simp -implicitDefEqProofs [runM, pad, mCall_R, v1, v2, lc, gt]
theorem v_meetOf (hp : Pk n ps) (h : isFl n ps f) (h' : isFl n ps g) (ρ : En) : (Fmeet_of_v2 [PO n ps, tix f, tix g]).R ρ = .ok (if metL n ps (f ++ g) = true then tix (clL n ps (f ++ g)) else .non) ρ := by
  have v1 := fun ρ => v_chkFl (fun ρ => v_isFl hp h ρ) ρ
  have v2 := fun ρ => v_chkFl (fun ρ => v_isFl hp h' ρ) ρ
  have l1 := h.len hp
  have l2 := h'.len hp
  have hk : ∀ k ∈ f ++ g, k < ps.length := fun k hk => (List.mem_append.mp hk).elim (h.1 k) (h'.1 k)
  have vs := fun ρ => v_spanAtS hp hk (by rw [List.length_append]; omega) (IxS.tix (f ++ g)) ρ
  have ad := add_tix (a := f) (b := g) (by omega)
  have vm := fun ρ : En => fun h0 => meth_pls (n := n) (ps := ps) (tab := tb [("Planes", FPlanes_planes)]) (o := mVar 0) (ρ := ρ) h0 rfl
  rw [met_span hp hk]
  have e0 : mmeet_of_v2_s0 [some (PO n ps), some (tix f), some (tix g), none] = .nx [some (PO n ps), some (tix f), some (tix g), none] := by
    clear vs ad vm
    generalize PO n ps = P at *
    generalize tix f = F at *
    generalize tix g = G at *
    simp -implicitDefEqProofs [mmeet_of_v2_s0, mCall_R, v1]
  have e1 : mmeet_of_v2_s1 [some (PO n ps), some (tix f), some (tix g), none] = .nx [some (PO n ps), some (tix f), some (tix g), none] := by
    clear vs ad vm
    generalize PO n ps = P at *
    generalize tix f = F at *
    generalize tix g = G at *
    simp -implicitDefEqProofs [mmeet_of_v2_s1, mCall_R, v2]
  have e2 : mmeet_of_v2_s2 [some (PO n ps), some (tix f), some (tix g), none] = .nx [some (PO n ps), some (tix f), some (tix g), some (oSp n (spanP n [] (pickK ps (f ++ g))))] := by
    clear vm
    generalize oSp n (spanP n [] (pickK ps (f ++ g))) = Y at *
    generalize PO n ps = P at *
    generalize tix (f ++ g) = FG at *
    generalize tix f = F at *
    generalize tix g = G at *
    simp -implicitDefEqProofs [mmeet_of_v2_s2, mCall_R, ad, vs]
  have hh : ∀ r ρ', mmeet_of_v2 [some (PO n ps), some (tix f), some (tix g), none] = .rt r ρ' → (Fmeet_of_v2 [PO n ps, tix f, tix g]).R ρ = .ok r ρ := fun r ρ' e => by
    have := runM_rt (n := 4) (np := 3) (dd := []) (fr := false) (m := mmeet_of_v2) (ds := [PO n ps, tix f, tix g]) rfl e
    unfold Fmeet_of_v2
    rw [this, Ret.R_rt]
  cases e : spanP n [] (pickK ps (f ++ g)) with
  | none =>
    rw [e] at e2
    refine hh _ [some (PO n ps), some (tix f), some (tix g), some (oSp n none)] ?_
    have gi : isNon (oSp n none) = true := rfl
    have e3 : mmeet_of_v2_s3 [some (PO n ps), some (tix f), some (tix g), some (oSp n none)] = .rt .non [some (PO n ps), some (tix f), some (tix g), some (oSp n none)] := by
      clear vs vm ad e2
      generalize oSp n none = Y at *
      generalize PO n ps = P at *
      generalize tix f = F at *
      generalize tix g = G at *
      simp -implicitDefEqProofs [mmeet_of_v2_s3, gi]
    unfold mmeet_of_v2
    rw [seq_nx e0, seq_nx e1, seq_nx e2, seq_rt e3]
    rfl
  | some S =>
    rw [e] at e2
    refine hh _ [some (PO n ps), some (tix f), some (tix g), some (oSp n (some S))] ?_
    have gi : isNon (oSp n (some S)) = false := rfl
    have vc := fun ρ => v_closedAt hp hk e ρ
    have vm1 := vm [some (PO n ps), some (tix f), some (tix g), some (oSp n (some S))] rfl
    have e3 : mmeet_of_v2_s3 [some (PO n ps), some (tix f), some (tix g), some (oSp n (some S))] = .nx [some (PO n ps), some (tix f), some (tix g), some (oSp n (some S))] := by
      clear vs vm ad e2 vc vm1
      generalize oSp n (some S) = Y at *
      generalize PO n ps = P at *
      generalize tix f = F at *
      generalize tix g = G at *
      simp -implicitDefEqProofs [mmeet_of_v2_s3, gi]
    have e4 : mmeet_of_v2_s4 [some (PO n ps), some (tix f), some (tix g), some (oSp n (some S))] = .rt (tix (clL n ps (f ++ g))) [some (PO n ps), some (tix f), some (tix g), some (oSp n (some S))] := by
      clear vs vm ad e2
      unfold mmeet_of_v2_s4
      generalize mMeth (tb [("Planes", FPlanes_planes)]) "planes" (mVar 0) mNil = M2 at *
      generalize tix (clL n ps (f ++ g)) = Z at *
      generalize oSp n (some S) = Y at *
      generalize PO n ps = P at *
      generalize tix f = F at *
      generalize tix g = G at *
      generalize D.lst (ps.map pl) = L at *
      simp -implicitDefEqProofs [mCall_R, vc, vm1]
    unfold mmeet_of_v2
    rw [seq_nx e0, seq_nx e1, seq_nx e2, seq_nx e3, e4]
    rfl
theorem v_spanNo {d1 d2 : D} {b : Bool} (h1 : ∀ ρ, (Fis_flat_v2 [PO n ps, d1]).R ρ = .ok (.bl b) ρ) (h : ∀ ρ, (Fis_flat_v2 [PO n ps, d2]).R ρ = .ok (.bl false) ρ) (ρ : En) : (Fspan_of_v2 [PO n ps, d1, d2]).R ρ = .ex NF ρ := by
  have v2 := fun ρ => v_chkNo h ρ
  cases b with
  | true =>
    have v1 := fun ρ => v_chkFl h1 ρ
    generalize PO n ps = P at *
    simp -implicitDefEqProofs [Fspan_of_v2, runM, mspan_of_v2, pad, mCall_R, v1, v2]
  | false =>
    have v1 := fun ρ => v_chkNo h1 ρ
    generalize PO n ps = P at *
    simp -implicitDefEqProofs [Fspan_of_v2, runM, mspan_of_v2, pad, mCall_R, v1]
theorem v_meetNo {d2 : D} (h : ∀ ρ, (Fis_flat_v2 [PO n ps, d]).R ρ = .ok (.bl false) ρ) (ρ : En) : (Fmeet_of_v2 [PO n ps, d, d2]).R ρ = .ex NF ρ := by
  have v1 := fun ρ => v_chkNo h ρ
  generalize PO n ps = P at *
  simp -implicitDefEqProofs [Fmeet_of_v2, runM, mmeet_of_v2, mmeet_of_v2_s0, pad, mCall_R, v1]
end
end Q
namespace Q
open DL PySem PySem.Spec PyProof.Rows
section
variable {n : Nat} {ps : List (List Int)}
theorem ext_ds {L M : List D} (h : L.length + M.length ≤ 10000) : gExtend L [.lst M] = some (.non, L ++ M) := by
  have sz := szv
  show (if L.length + M.length ≤ sizeLine then _ else _) = _
  rw [if_pos (by omega)]
theorem lvS_len (hp : Pk n ps) (r : Nat) : (lvS n ps r).length ≤ 64 := by
  obtain ⟨nd, en⟩ := all_ent hp.rows hp.row r
  have := lv_len hp nd en
  unfold lvS
  rw [List.length_mergeSort]
  unfold keysL
  rw [List.length_map]
  exact this
theorem v_flats (hp : Pk n ps) : ∃ R, R ≤ n + 1 ∧ lvAll n ps R = [] ∧ ∀ ρ, (Fflats_by_rank_v2 [PO n ps]).R ρ = .ok (.lst (lvlD n ps R)) ρ := by
  obtain ⟨R, h1, h2, v⟩ := v_levels hp
  refine ⟨R, h1, h2, fun ρ => ?_⟩
  have vm := meth_pls (n := n) (ps := ps) (tab := tb [("Planes", FPlanes_planes)]) (o := mVar 0) (ρ := [some (PO n ps)]) rfl rfl
  have fl := fld_n (n := n) (ps := ps)
  unfold Fflats_by_rank_v2 mflats_by_rank_v2
  generalize mMeth (tb [("Planes", FPlanes_planes)]) "planes" (mVar 0) mNil = M at *
  generalize D.lst (lvlD n ps R) = X at *
  generalize PO n ps = P at *
  generalize D.lst (ps.map pl) = L at *
  generalize (n : Int) = ni at *
  simp -implicitDefEqProofs [runM, pad, mCall_R, vm, fl, v]
theorem v_web (hp : Pk n ps) (ρ : En) : (Fweb_v2 [PO n ps]).R ρ = .ok (lD (webP n ps)) ρ := by
  obtain ⟨R, h1, h2, v⟩ := v_flats hp
  have n3 := hp.n3
  have lp : ∀ (xs : List Nat) (L : List (List Nat)) (o2 : Option D), L.length + 64 * xs.length ≤ 1000 →
      ∃ o2', loopL (mgName 2) mweb_v2_b0 (xs.map fun r => lD (lvS n ps r)) [some (PO n ps), some (lD L), o2] = .nx [some (PO n ps), some (lD (L ++ xs.flatMap (lvS n ps))), o2'] := by
    intro xs
    induction xs with
    | nil => exact fun L o2 _ => ⟨o2, by rw [List.flatMap_nil, List.append_nil]; rfl⟩
    | cons r xs ih =>
      intro L o2 hl
      have lr := lvS_len hp r
      rw [List.length_cons] at hl
      have b : mweb_v2_b0 [some (PO n ps), some (lD L), some (lD (lvS n ps r))] = .nx [some (PO n ps), some (lD (L ++ lvS n ps r)), some (lD (lvS n ps r))] := by
        have m := mOM_at (g := gExtend) (j := 1) (args := mCons (mVar 2) mNil) (ρ := [some (PO n ps), some (lD L), some (lD (lvS n ps r))]) (ds := [lD (lvS n ps r)]) (cs := L.map tix) (cs2 := L.map tix ++ (lvS n ps r).map tix) (z := .non) rfl rfl (ext_ds (by rw [List.length_map, List.length_map]; omega))
        unfold mweb_v2_b0 msExpr
        rw [m]
        show Out.nx [some (PO n ps), some (.lst (L.map tix ++ (lvS n ps r).map tix)), some (lD (lvS n ps r))] = _
        unfold lD
        rw [List.map_append]
      obtain ⟨o2', e⟩ := ih (L ++ lvS n ps r) (some (lD (lvS n ps r))) (by rw [List.length_append]; omega)
      refine ⟨o2', ?_⟩
      rw [List.map_cons, loop_step (ρ1 := [some (PO n ps), some (lD L), some (lD (lvS n ps r))]) rfl b, e, List.flatMap_cons, List.append_assoc]
  obtain ⟨o2, e⟩ := lp (List.range R) [] none (by rw [List.length_range]; simp; omega)
  rw [List.nil_append, web_cut h1 h2] at e
  have e1 : (msFor (mIter (mCall Q.Fflats_by_rank_v2 (mCons (mVar 0) mNil))) (mgName 2) mweb_v2_b0) [some (PO n ps), some (lD []), none] = .nx [some (PO n ps), some (lD (webP n ps)), o2] := by
    have gi : gIter (.lst (lvlD n ps R)) = some (lvlD n ps R) := rfl
    have e' : loopL (mgName 2) mweb_v2_b0 (lvlD n ps R) [some (PO n ps), some (lD []), none] = .nx [some (PO n ps), some (lD (webP n ps)), o2] := e
    clear lp e
    generalize mweb_v2_b0 = B at *
    generalize lD (webP n ps) = W at *
    generalize lvlD n ps R = LL at *
    generalize PO n ps = P at *
    generalize lD [] = Z at *
    simp -implicitDefEqProofs [mCall_R, v, gi, e']
  have e0 : (msOwn 1 (mN gLst mNil)) [some (PO n ps), none, none] = .nx [some (PO n ps), some (lD []), none] := by
    show _ = Out.nx [some (PO n ps), some (.lst ([] : List D)), none]
    generalize PO n ps = P at *
    simp -implicitDefEqProofs
  have go : mweb_v2 [some (PO n ps), none, none] = .rt (lD (webP n ps)) [some (PO n ps), some (lD (webP n ps)), o2] := by
    unfold mweb_v2
    rw [msForget_ap]
    show msSeq _ _ [some (PO n ps), none, none] = _
    rw [seq_nx e0, seq_nx e1]
    rfl
  have := runM_rt (n := 3) (np := 1) (dd := []) (fr := false) (m := mweb_v2) (ds := [PO n ps]) rfl go
  unfold Fweb_v2
  rw [this, Ret.R_rt]
def rfD (a : RF) : D := .tup [.int (a.1 : Nat), tix a.2]
def rfK (a : RF) : PyData := .tuple [.int (a.1 : Nat), .tuple ((zI a.2).map .int)]
theorem py_rf (a : RF) : (rfD a).py = some (rfK a) ∧ pyOf (rfD a) = rfK a := by
  have h : (rfD a).py = some (rfK a) := by
    unfold rfD rfK
    have h1 : (D.int (a.1 : Nat)).py = some (.int (a.1 : Nat)) := by unfold D.py; rfl
    have h2 := py_tix a.2
    unfold D.py
    unfold pyAll
    rw [h1]
    unfold pyAll
    rw [h2]
    unfold pyAll
    rfl
  refine ⟨h, ?_⟩
  unfold pyOf
  rw [h]
  rfl
theorem rLe_eq (a b : RF) : (!PySem.W.dataLt (rfK b) (rfK a)) = rE a b := by
  unfold rfK
  rw [PySem.W.dataLt_pair (by simp [PySem.W.alike]) (by simp [PySem.W.alike, PySem.W.alike_ints]), eqv_tup, lt_tup, PySem.W.dataLt_int]
  unfold rE lE
  simp only [PyData.eqv, beq_iff_eq]
  by_cases c : b.1 = a.1
  · rw [if_pos c.symm, if_pos (by omega)]
    by_cases d : zI b.2 = zI a.2
    · rw [decide_eq_true d, d, decide_eq_false (List.lt_irrefl _)]
      rfl
    · rw [decide_eq_false d]
      rfl
  · rw [if_neg (fun z : a.1 = b.1 => c z.symm), if_neg (by omega)]
    rw [Bool.eq_iff_iff, Bool.not_eq_true', decide_eq_false_iff_not, decide_eq_true_iff]
    omega
theorem sort_rfOk (L : List RF) : sortOk (L.map rfD) = true := by
  unfold sortOk
  rw [Bool.and_eq_true, Bool.and_eq_true, Bool.or_eq_true]
  refine ⟨⟨?_, ?_⟩, .inl ?_⟩
  · rw [List.all_map]
    refine List.all_eq_true.mpr fun a _ => ?_
    show ((rfD a).py.isSome && decide ((pyOf (rfD a)).depth ≤ 50)) = true
    have hd : (rfK a).depth ≤ 50 := by
      unfold rfK
      have := PySem.W.depth_ints (zI a.2)
      simp [PyData.depth, PyData.depthAll, this]
    rw [(py_rf a).1, (py_rf a).2, decide_eq_true hd]
    rfl
  · rw [List.all_map]
    refine List.all_eq_true.mpr fun a _ => ?_
    show ((L.map rfD).all fun d' => PySem.W.alike (pyOf (rfD a)) (pyOf d')) = true
    rw [List.all_map]
    refine List.all_eq_true.mpr fun b _ => ?_
    show PySem.W.alike (pyOf (rfD a)) (pyOf (rfD b)) = true
    rw [(py_rf a).2, (py_rf b).2]
    simp [rfK, PySem.W.alike, PySem.W.alikeAll, PySem.W.alike_ints]
  · rw [List.all_map]
    refine List.all_eq_true.mpr fun a _ => ?_
    show tupHead (pyOf (rfD a)) = true
    rw [(py_rf a).2]
    rfl
theorem g_sortR (L : List RF) : gSortD [.lst (L.map rfD)] = some (.lst ((L.mergeSort rE).map rfD)) := by
  show (if (L.map rfD).length < 2 then some (D.lst (L.map rfD)) else if sortOk (L.map rfD) = true then some (.lst ((L.map rfD).mergeSort (PySem.W.dataLe false pyOf))) else none) = _
  by_cases c : L.length < 2
  · rw [if_pos (by rw [List.length_map]; exact c)]
    have : L.mergeSort rE = L := by
      match L, c with
      | [], _ => exact List.mergeSort_nil
      | [a], _ => exact List.mergeSort_singleton a
    rw [this]
  · rw [if_neg (by rw [List.length_map]; exact c), if_pos (sort_rfOk L), List.map_mergeSort (f := rfD) (r := rE) (fun a _ b _ => ?_)]
    rw [← rLe_eq]
    show _ = (!PySem.W.dataLt (pyOf (rfD b)) (pyOf (rfD a)))
    rw [(py_rf a).2, (py_rf b).2]
abbrev Elw (n : Nat) (ps : List (List Int)) (F : List (List Nat)) (o3 o4 o5 o6 : Option D) : En := [some (.int (n : Nat)), some (.lst (ps.map pl)), some (lD F), o3, o4, o5, o6]
theorem lwb_go (hp : Pk n ps) {ks : List Nat} (hk : Kk ps ks) (F : List (List Nat)) (hF : F.length ≤ 900) (o4 o5 o6 : Option D) : ∃ o4', m_law_web_b0 (Elw n ps F (some (tix ks)) o4 o5 o6) = .nx (Elw n ps (dedW n ps F ks) (some (tix ks)) o4' o5 o6) := by
  have v1 := fun ρ => v_lmetS hp hk (IxS.tix ks) ρ
  have v2 := fun ρ => v_lclosedS hp hk.lt hk.len (IxS.tix ks) ρ
  have ni := notin_txs (clL n ps ks) F
  unfold dedW
  cases c : metL n ps ks with
  | false =>
    rw [c] at v1
    refine ⟨o4, ?_⟩
    simp only [Bool.false_eq_true, if_false]
    unfold Elw
    generalize D.lst (ps.map pl) = L at *
    generalize tix ks = T at *
    generalize lD F = FD at *
    generalize (n : Int) = nn at *
    simp -implicitDefEqProofs [m_law_web_b0, mCall_R, v1]
  | true =>
    rw [c] at v1
    refine ⟨some (tix (clL n ps ks)), ?_⟩
    simp only [if_true]
    by_cases q : clL n ps ks ∈ F
    · rw [if_pos q]
      rw [decide_eq_true q] at ni
      unfold Elw lD
      generalize tix (clL n ps ks) = Z at *
      generalize D.lst (ps.map pl) = L at *
      generalize tix ks = T at *
      generalize F.map tix = FD at *
      generalize (n : Int) = nn at *
      simp -implicitDefEqProofs [m_law_web_b0, m2B, evB, rdB, getO, mCall_R, v1, v2, ni]
    · rw [if_neg q]
      rw [decide_eq_false q] at ni
      have ap := app_txs F (by omega) (clL n ps ks)
      unfold Elw lD
      generalize (F ++ [clL n ps ks]).map tix = FD2 at *
      generalize tix (clL n ps ks) = Z at *
      generalize D.lst (ps.map pl) = L at *
      generalize tix ks = T at *
      generalize F.map tix = FD at *
      generalize (n : Int) = nn at *
      simp -implicitDefEqProofs [m_law_web_b0, m2B, evB, rdB, getO, mCall_R, v1, v2, ni, ap]
theorem dedW_len (F : List (List Nat)) (ks : List Nat) : (dedW n ps F ks).length ≤ F.length + 1 := by
  unfold dedW
  split
  · split
    · omega
    · rw [List.length_append]; simp
  · omega
theorem sub_le (hp : Pk n ps) : (subsL ps.length).length ≤ 64 := by
  rw [subs_len]
  exact Nat.pow_le_pow_right (n := 2) (by decide) hp.len
theorem v_lweb (hp : Pk n ps) (ρ : En) : (F_law_web [.int (n : Nat), .lst (ps.map pl)]).R ρ = .ok (lD (webL n ps)) ρ := by
  have sz := szv
  have l6 := hp.len
  have vs := fun ρ => v_lsubsets (c := ps.length) l6 ρ
  have gl : gLen [.lst (ps.map pl)] = some (.int (ps.length : Nat)) := by simp [gLen]
  have lp : ∀ (xs F : List (List Nat)) (o3 o4 : Option D), (∀ a ∈ xs, a ∈ subsL ps.length) → F.length + xs.length ≤ 200 →
      ∃ o3' o4', loopL (mgName 3) m_law_web_b0 (xs.map tix) (Elw n ps F o3 o4 none none) = .nx (Elw n ps (xs.foldl (dedW n ps) F) o3' o4' none none) := by
    intro xs
    induction xs with
    | nil => exact fun F o3 o4 _ _ => ⟨o3, o4, rfl⟩
    | cons a xs ih =>
      intro F o3 o4 hx hl
      rw [List.length_cons] at hl
      obtain ⟨p4, b⟩ := lwb_go hp (subs_Kk l6 (hx a List.mem_cons_self)).1 F (by omega) o4 none none
      have dl := dedW_len (n := n) (ps := ps) F a
      obtain ⟨q3, q4, e⟩ := ih (dedW n ps F a) (some (tix a)) p4 (fun x h => hx x (List.mem_cons_of_mem _ h)) (by omega)
      refine ⟨q3, q4, ?_⟩
      rw [List.map_cons, loop_step (ρ1 := Elw n ps F (some (tix a)) o4 none none) rfl b, e]
      rfl
  have sl := sub_le hp
  obtain ⟨o3, o4, e⟩ := lp (subsL ps.length) [] none none (fun _ h => h) (by simp; omega)
  have flen : (flW n ps).length ≤ 64 := by
    have a := nodup_le (m := subsL ps.length) (dedW_go (subsL ps.length) [] List.nodup_nil (n := n) (ps := ps)).1 fun x hx => by
      have := ((flW_mem hp.rows).mp hx).2.2
      rw [this]
      exact subs_filter _ _
    show (flW n ps).length ≤ 64
    unfold flW
    omega
  have e0 : (msOwn 2 (mN gLst mNil)) [some (.int (n : Nat)), some (.lst (ps.map pl)), none, none, none, none, none] = .nx (Elw n ps [] none none none none) := by
    show _ = Out.nx [some (.int (n : Nat)), some (.lst (ps.map pl)), some (.lst ([] : List D)), none, none, none, none]
    generalize D.lst (ps.map pl) = L at *
    simp -implicitDefEqProofs
  have e1 : (msFor (mIter (mCall Q.F_law_subsets (mCons (mN gLen (mCons (mVar 1) mNil)) mNil))) (mgName 3) m_law_web_b0) (Elw n ps [] none none none none) = .nx (Elw n ps (flW n ps) o3 o4 none none) := by
    have gi : gIter (.lst ((subsL ps.length).map tix)) = some ((subsL ps.length).map tix) := rfl
    have e' : loopL (mgName 3) m_law_web_b0 ((subsL ps.length).map tix) (Elw n ps [] none none none none) = .nx (Elw n ps (flW n ps) o3 o4 none none) := e
    clear lp e
    unfold Elw at *
    generalize (subsL ps.length).map tix = SS at *
    generalize m_law_web_b0 = B at *
    generalize lD (flW n ps) = W at *
    generalize lD [] = Z at *
    generalize D.lst (ps.map pl) = L at *
    generalize (ps.length : Int) = pn at *
    simp -implicitDefEqProofs [mCall_R, gl, vs, gi, e']
  have lc := mLc_map (as := flW n ps) (enc := tix) (vs := [4]) (g := mgName 4) (mi := mIter (mVar 2)) (me := m_law_web_e1) (ρ0 := Elw n ps (flW n ps) o3 o4 none none) (ρ := Elw n ps (flW n ps) o3 o4 none none)
    (st := fun f => Elw n ps (flW n ps) o3 (some (tix f)) none none) (f := fun f => rfD (rkF n ps f)) rfl (by omega) (fun _ => rfl) (fun _ _ => rfl) (fun f hf => by
      have fl := (flW_mem hp.rows).mp hf
      have kk := fl.kk hp
      have v1 := fun ρ => v_lchosenS (IxS.tix f) kk.lt (by have := kk.len; omega) ρ
      have v2 := fun ρ => v_lrk hp (Sq.lst ((pickK ps f).map pl)) (Kk.pick hp kk) (by rw [pick_len]; have := kk.len; omega) (Nat.le_succ n) ρ
      have er : rfD (rkF n ps f) = .tup [.int (rankL n (pickK ps f) : Nat), tix f] := rfl
      rw [er]
      clear e1 e lp
      unfold Elw
      generalize (rankL n (pickK ps f) : Int) = rr at *
      generalize D.lst ((pickK ps f).map pl) = X at *
      generalize D.lst (ps.map pl) = L at *
      generalize tix f = T at *
      generalize lD (flW n ps) = W at *
      generalize (n : Int) = nn at *
      simp -implicitDefEqProofs [m_law_web_e1, mCall_R, v1, v2, show 2 ≤ sizeLine by omega])
  have em : (flW n ps).map (fun f => rfD (rkF n ps f)) = ((flW n ps).map (rkF n ps)).map rfD := by rw [List.map_map]; rfl
  rw [em] at lc
  have gs := g_sortR ((flW n ps).map (rkF n ps))
  have e2 : (msAsg (mN gSortD (mCons (mLc [4] (mIter (mVar 2)) (mgName 4) mYes m_law_web_e1) mNil)) (mgName 5)) (Elw n ps (flW n ps) o3 o4 none none) = .nx (Elw n ps (flW n ps) o3 o4 (some (.lst ((((flW n ps).map (rkF n ps)).mergeSort rE).map rfD))) none) := by
    clear e1 e lp
    unfold Elw at *
    generalize mLc [4] (mIter (mVar 2)) (mgName 4) mYes m_law_web_e1 = M at *
    generalize D.lst ((((flW n ps).map (rkF n ps)).mergeSort rE).map rfD) = Y at *
    generalize D.lst (((flW n ps).map (rkF n ps)).map rfD) = X at *
    generalize lD (flW n ps) = W at *
    generalize D.lst (ps.map pl) = L at *
    simp -implicitDefEqProofs [lc, gs]
  have lc2 := mLc_map (as := ((flW n ps).map (rkF n ps)).mergeSort rE) (enc := rfD) (vs := [6, 4]) (g := mgTup 2 (mgCons (mgName 6) (mgCons (mgName 4) mgNil))) (mi := mIter (mVar 5)) (me := mVar 4) (ρ0 := Elw n ps (flW n ps) o3 o4 (some (.lst ((((flW n ps).map (rkF n ps)).mergeSort rE).map rfD))) none) (ρ := Elw n ps (flW n ps) o3 o4 (some (.lst ((((flW n ps).map (rkF n ps)).mergeSort rE).map rfD))) none)
    (st := fun a => Elw n ps (flW n ps) o3 (some (tix a.2)) (some (.lst ((((flW n ps).map (rkF n ps)).mergeSort rE).map rfD))) (some (.int (a.1 : Nat)))) (f := fun a => tix a.2) rfl (by rw [List.length_mergeSort, List.length_map]; omega) (fun _ => rfl) (fun _ _ => rfl) (fun _ _ => rfl)
  have em2 : (((flW n ps).map (rkF n ps)).mergeSort rE).map (fun a => tix a.2) = (webL n ps).map tix := by unfold webL; rw [List.map_map]; rfl
  rw [em2] at lc2
  have go : m_law_web [some (.int (n : Nat)), some (.lst (ps.map pl)), none, none, none, none, none] = .rt (lD (webL n ps)) (Elw n ps (flW n ps) o3 o4 (some (.lst ((((flW n ps).map (rkF n ps)).mergeSort rE).map rfD))) none) := by
    unfold m_law_web
    rw [msForget_ap]
    show msSeq _ _ [some (.int (n : Nat)), some (.lst (ps.map pl)), none, none, none, none, none] = _
    rw [seq_nx e0, seq_nx e1, seq_nx e2]
    unfold msRet
    rw [lc2]
    rfl
  have := runM_rt (n := 7) (np := 2) (dd := []) (fr := false) (m := m_law_web) (ds := [.int (n : Nat), .lst (ps.map pl)]) rfl go
  unfold F_law_web
  rw [this, Ret.R_rt]
end
end Q
namespace K30
open DL L2 PySem PySem.Spec PyProof.Rows
abbrev prog : Program := PySem.Challenge.pw_planeworth_k30_webs_of_meets
def top (i : Nat) : Stmt := prog.main.body.getD i (.Pass ⟨0, 0, 0, 0⟩)
abbrev s_law_number : Stmt := top 53
abbrev s_law_draws : Stmt := top 54
abbrev s_law_divisor : Stmt := top 56
abbrev s_law_short : Stmt := top 57
abbrev s_law_next : Stmt := top 55
abbrev s_law_rows : Stmt := top 58
abbrev s_law_subsets : Stmt := top 63
abbrev s_law_chosen : Stmt := top 60
abbrev s_law_rank : Stmt := top 59
abbrev s_law_is_met : Stmt := top 61
abbrev s_law_closed : Stmt := top 62
abbrev s_law_web : Stmt := top 64
abbrev sSpan_init : Stmt := (cbody (top 18)).getD 0 (.Pass ⟨0, 0, 0, 0⟩)
abbrev sdivisor : Stmt := top 9
abbrev scommon_of : Stmt := top 16
abbrev sshortened : Stmt := top 17
abbrev sSpan_rest : Stmt := (cbody (top 18)).getD 1 (.Pass ⟨0, 0, 0, 0⟩)
abbrev sSpan_place_of : Stmt := (cbody (top 18)).getD 2 (.Pass ⟨0, 0, 0, 0⟩)
abbrev sSpan_with_rest : Stmt := (cbody (top 18)).getD 3 (.Pass ⟨0, 0, 0, 0⟩)
abbrev sspan_of_rows : Stmt := top 19
abbrev sPlanes_planes : Stmt := (cbody (top 49)).getD 3 (.Pass ⟨0, 0, 0, 0⟩)
abbrev schosen : Stmt := top 24
abbrev sspan_at : Stmt := top 25
abbrev sascends : Stmt := top 31
abbrev sclosed : Stmt := top 20
abbrev sPlanes_len : Stmt := (cbody (top 49)).getD 1 (.Pass ⟨0, 0, 0, 0⟩)
abbrev sis_flat : Stmt := top 32
abbrev scheck_flat : Stmt := top 33
abbrev smeet_of : Stmt := top 36
abbrev scheck_places : Stmt := top 23
abbrev sflat_of : Stmt := top 28
abbrev smeets : Stmt := top 26
abbrev srank_of : Stmt := top 27
abbrev sflat_dimension : Stmt := top 34
abbrev sspan_of : Stmt := top 35
abbrev s_law_error : Stmt := top 68
abbrev s_law_told : Stmt := top 69
abbrev s_law_sets : Stmt := top 70
abbrev s_law_pairs : Stmt := top 71
abbrev slevels : Stmt := top 21
abbrev sflats_by_rank : Stmt := top 29
abbrev sweb : Stmt := top 30
abbrev scheck_letters : Stmt := top 45
abbrev sis_plane : Stmt := top 46
abbrev sother_way : Stmt := top 47
abbrev sare_planes : Stmt := top 48
abbrev sPlanes_init : Stmt := (cbody (top 49)).getD 0 (.Pass ⟨0, 0, 0, 0⟩)
abbrev slaw : Stmt := top 72
abbrev cMOST_ENTRY : Int := 1000
abbrev cMOST_LETTERS : Int := 4
abbrev cMOST_PLANES : Int := 12
structure Fc (K : PySem.W.Frag) (mg : Str → Option Value) : Prop where
  g_BadNumber : mg "BadNumber" = some (.ref (He.ga K "BadNumber"))
  g_NoAnswer : mg "NoAnswer" = some (.ref (He.ga K "NoAnswer"))
  g_NotFlat : mg "NotFlat" = some (.ref (He.ga K "NotFlat"))
  g_NotPlanes : mg "NotPlanes" = some (.ref (He.ga K "NotPlanes"))
  g_PlaneError : mg "PlaneError" = some (.ref (He.ga K "PlaneError"))
  g_Planes : mg "Planes" = some (.ref (He.ga K "Planes"))
  g_Span : mg "Span" = some (.ref (He.ga K "Span"))
  g__law_chosen : mg "_law_chosen" = some (.ref (He.ga K "_law_chosen"))
  g__law_closed : mg "_law_closed" = some (.ref (He.ga K "_law_closed"))
  g__law_divisor : mg "_law_divisor" = some (.ref (He.ga K "_law_divisor"))
  g__law_draws : mg "_law_draws" = some (.ref (He.ga K "_law_draws"))
  g__law_error : mg "_law_error" = some (.ref (He.ga K "_law_error"))
  g__law_is_met : mg "_law_is_met" = some (.ref (He.ga K "_law_is_met"))
  g__law_next : mg "_law_next" = some (.ref (He.ga K "_law_next"))
  g__law_number : mg "_law_number" = some (.ref (He.ga K "_law_number"))
  g__law_pairs : mg "_law_pairs" = some (.ref (He.ga K "_law_pairs"))
  g__law_rank : mg "_law_rank" = some (.ref (He.ga K "_law_rank"))
  g__law_rows : mg "_law_rows" = some (.ref (He.ga K "_law_rows"))
  g__law_sets : mg "_law_sets" = some (.ref (He.ga K "_law_sets"))
  g__law_short : mg "_law_short" = some (.ref (He.ga K "_law_short"))
  g__law_subsets : mg "_law_subsets" = some (.ref (He.ga K "_law_subsets"))
  g__law_told : mg "_law_told" = some (.ref (He.ga K "_law_told"))
  g__law_web : mg "_law_web" = some (.ref (He.ga K "_law_web"))
  g_are_planes : mg "are_planes" = some (.ref (He.ga K "are_planes"))
  g_ascends : mg "ascends" = some (.ref (He.ga K "ascends"))
  g_check_flat : mg "check_flat" = some (.ref (He.ga K "check_flat"))
  g_check_letters : mg "check_letters" = some (.ref (He.ga K "check_letters"))
  g_check_places : mg "check_places" = some (.ref (He.ga K "check_places"))
  g_chosen : mg "chosen" = some (.ref (He.ga K "chosen"))
  g_closed : mg "closed" = some (.ref (He.ga K "closed"))
  g_common_of : mg "common_of" = some (.ref (He.ga K "common_of"))
  g_divisor : mg "divisor" = some (.ref (He.ga K "divisor"))
  g_flat_dimension : mg "flat_dimension" = some (.ref (He.ga K "flat_dimension"))
  g_flat_of : mg "flat_of" = some (.ref (He.ga K "flat_of"))
  g_flats_by_rank : mg "flats_by_rank" = some (.ref (He.ga K "flats_by_rank"))
  g_is_flat : mg "is_flat" = some (.ref (He.ga K "is_flat"))
  g_is_plane : mg "is_plane" = some (.ref (He.ga K "is_plane"))
  g_law : mg "law" = some (.ref (He.ga K "law"))
  g_levels : mg "levels" = some (.ref (He.ga K "levels"))
  g_meet_of : mg "meet_of" = some (.ref (He.ga K "meet_of"))
  g_meets : mg "meets" = some (.ref (He.ga K "meets"))
  g_other_way : mg "other_way" = some (.ref (He.ga K "other_way"))
  g_rank_of : mg "rank_of" = some (.ref (He.ga K "rank_of"))
  g_shortened : mg "shortened" = some (.ref (He.ga K "shortened"))
  g_span_at : mg "span_at" = some (.ref (He.ga K "span_at"))
  g_span_of : mg "span_of" = some (.ref (He.ga K "span_of"))
  g_span_of_rows : mg "span_of_rows" = some (.ref (He.ga K "span_of_rows"))
  g_web : mg "web" = some (.ref (He.ga K "web"))
  f_abs : mg "abs" = none
  f_all : mg "all" = none
  f_any : mg "any" = none
  f_enumerate : mg "enumerate" = none
  f_int : mg "int" = none
  f_isinstance : mg "isinstance" = none
  f_len : mg "len" = none
  f_list : mg "list" = none
  f_range : mg "range" = none
  f_repr : mg "repr" = none
  f_sorted : mg "sorted" = none
  f_tuple : mg "tuple" = none
  cl_Planes : Cls K (He.ga K "Planes")
  mk_Planes : Mk K (He.ga K "Planes") (He.ma K (He.ga K "Planes") "__init__")
  me_Planes_len : Meth K (He.ga K "Planes") "__len__" (He.ma K (He.ga K "Planes") "__len__")
  me_Planes_planes : Meth K (He.ga K "Planes") "planes" (He.ma K (He.ga K "Planes") "planes")
  na_Planes_kept : NoAttr K (He.ga K "Planes") "kept"
  na_Planes_n : NoAttr K (He.ga K "Planes") "n"
  cl_Span : Cls K (He.ga K "Span")
  mk_Span : Mk K (He.ga K "Span") (He.ma K (He.ga K "Span") "__init__")
  me_Span_rest : Meth K (He.ga K "Span") "rest" (He.ma K (He.ga K "Span") "rest")
  me_Span_place_of : Meth K (He.ga K "Span") "place_of" (He.ma K (He.ga K "Span") "place_of")
  me_Span_with_rest : Meth K (He.ga K "Span") "with_rest" (He.ma K (He.ga K "Span") "with_rest")
  na_Span_n : NoAttr K (He.ga K "Span") "n"
  na_Span_q : NoAttr K (He.ga K "Span") "q"
  na_Span_rows : NoAttr K (He.ga K "Span") "rows"
  c_MOST_ENTRY : ∃ t, mg "MOST_ENTRY" = some (.int cMOST_ENTRY t)
  c_MOST_LETTERS : ∃ t, mg "MOST_LETTERS" = some (.int cMOST_LETTERS t)
  c_MOST_PLANES : ∃ t, mg "MOST_PLANES" = some (.int cMOST_PLANES t)
  e_PlaneError : ExcOk K mg "PlaneError"
  e_NotPlanes : ExcOk K mg "NotPlanes"
  e_NotFlat : ExcOk K mg "NotFlat"
  e_BadNumber : ExcOk K mg "BadNumber"
  e_NoAnswer : ExcOk K mg "NoAnswer"
  m_PlaneError_PlaneError : PySem.W.exmOne K (.ref (He.ga K "PlaneError")) (.ref (He.ga K "PlaneError")) = some true
  m_PlaneError_NotPlanes : PySem.W.exmOne K (.ref (He.ga K "NotPlanes")) (.ref (He.ga K "PlaneError")) = some true
  m_PlaneError_NotFlat : PySem.W.exmOne K (.ref (He.ga K "NotFlat")) (.ref (He.ga K "PlaneError")) = some true
  m_PlaneError_BadNumber : PySem.W.exmOne K (.ref (He.ga K "BadNumber")) (.ref (He.ga K "PlaneError")) = some true
  m_PlaneError_NoAnswer : PySem.W.exmOne K (.ref (He.ga K "NoAnswer")) (.ref (He.ga K "PlaneError")) = some true
  x_PlaneError_PlaneError : ExcC K (He.ga K "PlaneError")
  x_PlaneError_NotPlanes : ExcC K (He.ga K "NotPlanes")
  x_PlaneError_NotFlat : ExcC K (He.ga K "NotFlat")
  x_PlaneError_BadNumber : ExcC K (He.ga K "BadNumber")
  x_PlaneError_NoAnswer : ExcC K (He.ga K "NoAnswer")
  k_PlaneError_BadNumber_PlaneError : PySem.W.kitOne K (.ref (He.ga K "PlaneError")) (.ref (He.ga K "BadNumber")) = some false
  k_PlaneError_BadNumber_NotPlanes : PySem.W.kitOne K (.ref (He.ga K "NotPlanes")) (.ref (He.ga K "BadNumber")) = some false
  k_PlaneError_BadNumber_NotFlat : PySem.W.kitOne K (.ref (He.ga K "NotFlat")) (.ref (He.ga K "BadNumber")) = some false
  k_PlaneError_BadNumber_BadNumber : PySem.W.kitOne K (.ref (He.ga K "BadNumber")) (.ref (He.ga K "BadNumber")) = some true
  k_PlaneError_BadNumber_NoAnswer : PySem.W.kitOne K (.ref (He.ga K "NoAnswer")) (.ref (He.ga K "BadNumber")) = some false
  k_PlaneError_NoAnswer_PlaneError : PySem.W.kitOne K (.ref (He.ga K "PlaneError")) (.ref (He.ga K "NoAnswer")) = some false
  k_PlaneError_NoAnswer_NotPlanes : PySem.W.kitOne K (.ref (He.ga K "NotPlanes")) (.ref (He.ga K "NoAnswer")) = some false
  k_PlaneError_NoAnswer_NotFlat : PySem.W.kitOne K (.ref (He.ga K "NotFlat")) (.ref (He.ga K "NoAnswer")) = some false
  k_PlaneError_NoAnswer_BadNumber : PySem.W.kitOne K (.ref (He.ga K "BadNumber")) (.ref (He.ga K "NoAnswer")) = some false
  k_PlaneError_NoAnswer_NoAnswer : PySem.W.kitOne K (.ref (He.ga K "NoAnswer")) (.ref (He.ga K "NoAnswer")) = some true
  k_PlaneError_NotFlat_PlaneError : PySem.W.kitOne K (.ref (He.ga K "PlaneError")) (.ref (He.ga K "NotFlat")) = some false
  k_PlaneError_NotFlat_NotPlanes : PySem.W.kitOne K (.ref (He.ga K "NotPlanes")) (.ref (He.ga K "NotFlat")) = some false
  k_PlaneError_NotFlat_NotFlat : PySem.W.kitOne K (.ref (He.ga K "NotFlat")) (.ref (He.ga K "NotFlat")) = some true
  k_PlaneError_NotFlat_BadNumber : PySem.W.kitOne K (.ref (He.ga K "BadNumber")) (.ref (He.ga K "NotFlat")) = some false
  k_PlaneError_NotFlat_NoAnswer : PySem.W.kitOne K (.ref (He.ga K "NoAnswer")) (.ref (He.ga K "NotFlat")) = some false
  k_PlaneError_PlaneError_PlaneError : PySem.W.kitOne K (.ref (He.ga K "PlaneError")) (.ref (He.ga K "PlaneError")) = some true
  k_PlaneError_PlaneError_NotPlanes : PySem.W.kitOne K (.ref (He.ga K "NotPlanes")) (.ref (He.ga K "PlaneError")) = some true
  k_PlaneError_PlaneError_NotFlat : PySem.W.kitOne K (.ref (He.ga K "NotFlat")) (.ref (He.ga K "PlaneError")) = some true
  k_PlaneError_PlaneError_BadNumber : PySem.W.kitOne K (.ref (He.ga K "BadNumber")) (.ref (He.ga K "PlaneError")) = some true
  k_PlaneError_PlaneError_NoAnswer : PySem.W.kitOne K (.ref (He.ga K "NoAnswer")) (.ref (He.ga K "PlaneError")) = some true
  d__law_number : ∃ fd, FunD K "_law_number" "_law_number" (defArgs s_law_number) (defBody s_law_number) (defScope s_law_number) [] [] (He.ga K "_law_number") fd
  d__law_draws : ∃ fd, FunD K "_law_draws" "_law_draws" (defArgs s_law_draws) (defBody s_law_draws) (defScope s_law_draws) [] [] (He.ga K "_law_draws") fd
  d__law_divisor : ∃ fd, FunD K "_law_divisor" "_law_divisor" (defArgs s_law_divisor) (defBody s_law_divisor) (defScope s_law_divisor) [] [] (He.ga K "_law_divisor") fd
  d__law_short : ∃ fd, FunD K "_law_short" "_law_short" (defArgs s_law_short) (defBody s_law_short) (defScope s_law_short) [] [] (He.ga K "_law_short") fd
  d__law_next : ∃ fd, FunD K "_law_next" "_law_next" (defArgs s_law_next) (defBody s_law_next) (defScope s_law_next) [] [] (He.ga K "_law_next") fd
  d__law_rows : ∃ fd, FunD K "_law_rows" "_law_rows" (defArgs s_law_rows) (defBody s_law_rows) (defScope s_law_rows) [] [] (He.ga K "_law_rows") fd
  d__law_subsets : ∃ fd, FunD K "_law_subsets" "_law_subsets" (defArgs s_law_subsets) (defBody s_law_subsets) (defScope s_law_subsets) [] [] (He.ga K "_law_subsets") fd
  d__law_chosen : ∃ fd, FunD K "_law_chosen" "_law_chosen" (defArgs s_law_chosen) (defBody s_law_chosen) (defScope s_law_chosen) [] [] (He.ga K "_law_chosen") fd
  d__law_rank : ∃ fd, FunD K "_law_rank" "_law_rank" (defArgs s_law_rank) (defBody s_law_rank) (defScope s_law_rank) [] [] (He.ga K "_law_rank") fd
  d__law_is_met : ∃ fd, FunD K "_law_is_met" "_law_is_met" (defArgs s_law_is_met) (defBody s_law_is_met) (defScope s_law_is_met) [] [] (He.ga K "_law_is_met") fd
  d__law_closed : ∃ fd, FunD K "_law_closed" "_law_closed" (defArgs s_law_closed) (defBody s_law_closed) (defScope s_law_closed) [] [] (He.ga K "_law_closed") fd
  d__law_web : ∃ fd, FunD K "_law_web" "_law_web" (defArgs s_law_web) (defBody s_law_web) (defScope s_law_web) [] [] (He.ga K "_law_web") fd
  d_Span_init : ∃ fd, FunD K "__init__" "Span.__init__" (defArgs sSpan_init) (defBody sSpan_init) (defScope sSpan_init) [] [] (He.ma K (He.ga K "Span") "__init__") fd
  d_divisor : ∃ fd, FunD K "divisor" "divisor" (defArgs sdivisor) (defBody sdivisor) (defScope sdivisor) [] [] (He.ga K "divisor") fd
  d_common_of : ∃ fd, FunD K "common_of" "common_of" (defArgs scommon_of) (defBody scommon_of) (defScope scommon_of) [] [] (He.ga K "common_of") fd
  d_shortened : ∃ fd, FunD K "shortened" "shortened" (defArgs sshortened) (defBody sshortened) (defScope sshortened) [] [] (He.ga K "shortened") fd
  d_Span_rest : ∃ fd, FunD K "rest" "Span.rest" (defArgs sSpan_rest) (defBody sSpan_rest) (defScope sSpan_rest) [] [] (He.ma K (He.ga K "Span") "rest") fd
  d_Span_place_of : ∃ fd, FunD K "place_of" "Span.place_of" (defArgs sSpan_place_of) (defBody sSpan_place_of) (defScope sSpan_place_of) [] [] (He.ma K (He.ga K "Span") "place_of") fd
  d_Span_with_rest : ∃ fd, FunD K "with_rest" "Span.with_rest" (defArgs sSpan_with_rest) (defBody sSpan_with_rest) (defScope sSpan_with_rest) [] [] (He.ma K (He.ga K "Span") "with_rest") fd
  d_span_of_rows : ∃ fd, FunD K "span_of_rows" "span_of_rows" (defArgs sspan_of_rows) (defBody sspan_of_rows) (defScope sspan_of_rows) [] [] (He.ga K "span_of_rows") fd
  d_Planes_planes : ∃ fd, FunD K "planes" "Planes.planes" (defArgs sPlanes_planes) (defBody sPlanes_planes) (defScope sPlanes_planes) [] [] (He.ma K (He.ga K "Planes") "planes") fd
  d_chosen : ∃ fd, FunD K "chosen" "chosen" (defArgs schosen) (defBody schosen) (defScope schosen) [] [] (He.ga K "chosen") fd
  d_span_at : ∃ fd, FunD K "span_at" "span_at" (defArgs sspan_at) (defBody sspan_at) (defScope sspan_at) [] [] (He.ga K "span_at") fd
  d_ascends : ∃ fd, FunD K "ascends" "ascends" (defArgs sascends) (defBody sascends) (defScope sascends) [] [] (He.ga K "ascends") fd
  d_closed : ∃ fd, FunD K "closed" "closed" (defArgs sclosed) (defBody sclosed) (defScope sclosed) [] [] (He.ga K "closed") fd
  d_Planes_len : ∃ fd, FunD K "__len__" "Planes.__len__" (defArgs sPlanes_len) (defBody sPlanes_len) (defScope sPlanes_len) [] [] (He.ma K (He.ga K "Planes") "__len__") fd
  d_is_flat : ∃ fd, FunD K "is_flat" "is_flat" (defArgs sis_flat) (defBody sis_flat) (defScope sis_flat) [] [] (He.ga K "is_flat") fd
  d_check_flat : ∃ fd, FunD K "check_flat" "check_flat" (defArgs scheck_flat) (defBody scheck_flat) (defScope scheck_flat) [] [] (He.ga K "check_flat") fd
  d_meet_of : ∃ fd, FunD K "meet_of" "meet_of" (defArgs smeet_of) (defBody smeet_of) (defScope smeet_of) [] [] (He.ga K "meet_of") fd
  d_check_places : ∃ fd, FunD K "check_places" "check_places" (defArgs scheck_places) (defBody scheck_places) (defScope scheck_places) [] [] (He.ga K "check_places") fd
  d_flat_of : ∃ fd, FunD K "flat_of" "flat_of" (defArgs sflat_of) (defBody sflat_of) (defScope sflat_of) [] [] (He.ga K "flat_of") fd
  d_meets : ∃ fd, FunD K "meets" "meets" (defArgs smeets) (defBody smeets) (defScope smeets) [] [] (He.ga K "meets") fd
  d_rank_of : ∃ fd, FunD K "rank_of" "rank_of" (defArgs srank_of) (defBody srank_of) (defScope srank_of) [] [] (He.ga K "rank_of") fd
  d_flat_dimension : ∃ fd, FunD K "flat_dimension" "flat_dimension" (defArgs sflat_dimension) (defBody sflat_dimension) (defScope sflat_dimension) [] [] (He.ga K "flat_dimension") fd
  d_span_of : ∃ fd, FunD K "span_of" "span_of" (defArgs sspan_of) (defBody sspan_of) (defScope sspan_of) [] [] (He.ga K "span_of") fd
  d__law_error : ∃ fd, FunD K "_law_error" "_law_error" (defArgs s_law_error) (defBody s_law_error) (defScope s_law_error) [] [] (He.ga K "_law_error") fd
  d__law_told : ∃ fd, FunD K "_law_told" "_law_told" (defArgs s_law_told) (defBody s_law_told) (defScope s_law_told) [] [] (He.ga K "_law_told") fd
  d__law_sets : ∃ fd, FunD K "_law_sets" "_law_sets" (defArgs s_law_sets) (defBody s_law_sets) (defScope s_law_sets) [] [] (He.ga K "_law_sets") fd
  d__law_pairs : ∃ fd, FunD K "_law_pairs" "_law_pairs" (defArgs s_law_pairs) (defBody s_law_pairs) (defScope s_law_pairs) [] [] (He.ga K "_law_pairs") fd
  d_levels : ∃ fd, FunD K "levels" "levels" (defArgs slevels) (defBody slevels) (defScope slevels) [] [] (He.ga K "levels") fd
  d_flats_by_rank : ∃ fd, FunD K "flats_by_rank" "flats_by_rank" (defArgs sflats_by_rank) (defBody sflats_by_rank) (defScope sflats_by_rank) [] [] (He.ga K "flats_by_rank") fd
  d_web : ∃ fd, FunD K "web" "web" (defArgs sweb) (defBody sweb) (defScope sweb) [] [] (He.ga K "web") fd
  d_check_letters : ∃ fd, FunD K "check_letters" "check_letters" (defArgs scheck_letters) (defBody scheck_letters) (defScope scheck_letters) [] [] (He.ga K "check_letters") fd
  d_is_plane : ∃ fd, FunD K "is_plane" "is_plane" (defArgs sis_plane) (defBody sis_plane) (defScope sis_plane) [] [] (He.ga K "is_plane") fd
  d_other_way : ∃ fd, FunD K "other_way" "other_way" (defArgs sother_way) (defBody sother_way) (defScope sother_way) [] [] (He.ga K "other_way") fd
  d_are_planes : ∃ fd, FunD K "are_planes" "are_planes" (defArgs sare_planes) (defBody sare_planes) (defScope sare_planes) [] [] (He.ga K "are_planes") fd
  d_Planes_init : ∃ fd, FunD K "__init__" "Planes.__init__" (defArgs sPlanes_init) (defBody sPlanes_init) (defScope sPlanes_init) [] [] (He.ma K (He.ga K "Planes") "__init__") fd
  d_law : ∃ fd, FunD K "law" "law" (defArgs slaw) (defBody slaw) (defScope slaw) [] [] (He.ga K "law") fd
def mtPlaneError (k : Str) : Option Bool := if k = "PlaneError" then some true else if k = "NotPlanes" then some true else if k = "NotFlat" then some true else if k = "BadNumber" then some true else if k = "NoAnswer" then some true else none
section
variable {K : PySem.W.Frag} {mg : Str → Option Value}
theorem mtPlaneError_ok (fc : Fc K mg) : ∀ k b, mtPlaneError k = some b → PySem.W.exmOne K (.ref (He.ga K k)) (.ref (He.ga K "PlaneError")) = some b := by
  intro k b h
  unfold mtPlaneError at h
  repeat' split at h
  · subst k; cases h; exact fc.m_PlaneError_PlaneError
  · subst k; cases h; exact fc.m_PlaneError_NotPlanes
  · subst k; cases h; exact fc.m_PlaneError_NotFlat
  · subst k; cases h; exact fc.m_PlaneError_BadNumber
  · subst k; cases h; exact fc.m_PlaneError_NoAnswer
  · cases h
theorem mtPlaneError_ex (fc : Fc K mg) {k : Str} (h : mtPlaneError k = some true) : ExcC K (He.ga K k) := by
  unfold mtPlaneError at h
  repeat' split at h
  · subst k; exact fc.x_PlaneError_PlaneError
  · subst k; exact fc.x_PlaneError_NotPlanes
  · subst k; exact fc.x_PlaneError_NotFlat
  · subst k; exact fc.x_PlaneError_BadNumber
  · subst k; exact fc.x_PlaneError_NoAnswer
  · cases h
end
def kBadNumber (k : Str) : Bool := decide (k = "BadNumber")
def kNoAnswer (k : Str) : Bool := decide (k = "NoAnswer")
def kNotFlat (k : Str) : Bool := decide (k = "NotFlat")
def kPlaneError (k : Str) : Bool := decide (k = "PlaneError") || decide (k = "NotPlanes") || decide (k = "NotFlat") || decide (k = "BadNumber") || decide (k = "NoAnswer")
theorem isPlaneError_BadNumber {K : PySem.W.Frag} {mg : Str → Option Value} (fc : Fc K mg) {k : Str} (h : mtPlaneError k = some true) : PySem.W.kitOne K (.ref (He.ga K k)) (.ref (He.ga K "BadNumber")) = some (kBadNumber k) := by
  unfold mtPlaneError at h
  repeat' split at h
  · subst k; exact fc.k_PlaneError_BadNumber_PlaneError
  · subst k; exact fc.k_PlaneError_BadNumber_NotPlanes
  · subst k; exact fc.k_PlaneError_BadNumber_NotFlat
  · subst k; exact fc.k_PlaneError_BadNumber_BadNumber
  · subst k; exact fc.k_PlaneError_BadNumber_NoAnswer
  · cases h
theorem isPlaneError_NoAnswer {K : PySem.W.Frag} {mg : Str → Option Value} (fc : Fc K mg) {k : Str} (h : mtPlaneError k = some true) : PySem.W.kitOne K (.ref (He.ga K k)) (.ref (He.ga K "NoAnswer")) = some (kNoAnswer k) := by
  unfold mtPlaneError at h
  repeat' split at h
  · subst k; exact fc.k_PlaneError_NoAnswer_PlaneError
  · subst k; exact fc.k_PlaneError_NoAnswer_NotPlanes
  · subst k; exact fc.k_PlaneError_NoAnswer_NotFlat
  · subst k; exact fc.k_PlaneError_NoAnswer_BadNumber
  · subst k; exact fc.k_PlaneError_NoAnswer_NoAnswer
  · cases h
theorem isPlaneError_NotFlat {K : PySem.W.Frag} {mg : Str → Option Value} (fc : Fc K mg) {k : Str} (h : mtPlaneError k = some true) : PySem.W.kitOne K (.ref (He.ga K k)) (.ref (He.ga K "NotFlat")) = some (kNotFlat k) := by
  unfold mtPlaneError at h
  repeat' split at h
  · subst k; exact fc.k_PlaneError_NotFlat_PlaneError
  · subst k; exact fc.k_PlaneError_NotFlat_NotPlanes
  · subst k; exact fc.k_PlaneError_NotFlat_NotFlat
  · subst k; exact fc.k_PlaneError_NotFlat_BadNumber
  · subst k; exact fc.k_PlaneError_NotFlat_NoAnswer
  · cases h
theorem isPlaneError_PlaneError {K : PySem.W.Frag} {mg : Str → Option Value} (fc : Fc K mg) {k : Str} (h : mtPlaneError k = some true) : PySem.W.kitOne K (.ref (He.ga K k)) (.ref (He.ga K "PlaneError")) = some (kPlaneError k) := by
  unfold mtPlaneError at h
  repeat' split at h
  · subst k; exact fc.k_PlaneError_PlaneError_PlaneError
  · subst k; exact fc.k_PlaneError_PlaneError_NotPlanes
  · subst k; exact fc.k_PlaneError_PlaneError_NotFlat
  · subst k; exact fc.k_PlaneError_PlaneError_BadNumber
  · subst k; exact fc.k_PlaneError_PlaneError_NoAnswer
  · cases h
def m_law_error (k : Str) : MS := (msForget 1 (msSeq (msOwn 1 (mN gLst mNil)) (msSeq (msIf (mTru (mK (.bl (kNotFlat k)))) (msExpr (mOM gAppend 1 (mCons (mK (.str "flat")) mNil))) msNil) (msSeq (msIf (mTru (mK (.bl (kNoAnswer k)))) (msExpr (mOM gAppend 1 (mCons (mK (.str "answer")) mNil))) msNil) (msSeq (msIf (mTru (mK (.bl (kBadNumber k)))) (msExpr (mOM gAppend 1 (mCons (mK (.str "number")) mNil))) msNil) (msSeq (msIf (mAndT (mTest (m2 gEq (mNO gLen 1) (mK (.int 1)))) (mTru (mK (.bl (kPlaneError k))))) (msRet (m2 gAdd (mK (.str "!")) (m2B gIx (.ow 1) (.ex (mK (.int 0)))))) msNil) (msRet (mK (.str "!other")))))))))
def FX_law_error : Str → Ret := runX 2 m_law_error
def m_law_told : MS := (msTryAs mtPlaneError 4 (msSeq (msIf (mTest (m2 gEq (mVar 0) (mK (.int 0)))) (msRet (mCall Q.Fflat_of_v2 (mCons (mVar 1) (mCons (mVar 2) mNil)))) msNil) (msSeq (msIf (mTest (m2 gEq (mVar 0) (mK (.int 1)))) (msRet (mCall Q.Fmeets (mCons (mVar 1) (mCons (mVar 2) mNil)))) msNil) (msSeq (msIf (mTest (m2 gEq (mVar 0) (mK (.int 2)))) (msRet (mCall Q.Frank_of (mCons (mVar 1) (mCons (mVar 2) mNil)))) msNil) (msSeq (msIf (mTest (m2 gEq (mVar 0) (mK (.int 3)))) (msRet (mCall Q.Fflat_dimension_v2 (mCons (mVar 1) (mCons (mVar 2) mNil)))) msNil) (msSeq (msIf (mTest (m2 gEq (mVar 0) (mK (.int 4)))) (msRet (mCall Q.Fspan_of_v2 (mCons (mVar 1) (mCons (mVar 2) (mCons (mVar 3) mNil))))) msNil) (msRet (mCall Q.Fmeet_of_v2 (mCons (mVar 1) (mCons (mVar 2) (mCons (mVar 3) mNil)))))))))) (fun k => (msRet (mCallX FX_law_error k))))
def F_law_told : FN := runM 5 4 [] false m_law_told
def m_law_sets_b0 : MS := (msIf (mTru (mVar 2)) (msExpr (mOM gAppend 5 (mCons (m2 gMod (mN gInt (mCons (mCallIo Q.F_law_next 0 mNil) mNil)) (mN gLen (mCons (mVar 2) mNil))) mNil))) msNil)
def m_law_sets_b1 : MS := (msIf (mOrT (mTest (m2 gNe (mN gRepr (mCons (mCall F_law_told (mCons (mVar 10) (mCons (mVar 3) (mCons (mVar 9) (mCons (mN gTup mNil) mNil))))) mNil)) (mN gRepr (mCons (m2 gIx (mVar 8) (mVar 10)) mNil)))) (mTest (m2 gNe (mVar 9) (mVar 5)))) (msRet (mK (.bl false))) msNil)
def m_law_sets_b2 : MS := (msForget 5 (msSeq (msOwn 5 (mN gLst mNil)) (msSeq (msFor (mItN gRange1 (mCons (m2 gMod (mN gInt (mCons (mCallIo Q.F_law_next 0 mNil) mNil)) (mK (.int 5))) mNil)) (mgName 6) m_law_sets_b0) (msSeq (msAsg (mCall Q.F_law_is_met (mCons (mVar 1) (mCons (mVar 2) (mCons (mVar 5) mNil)))) (mgName 7)) (msSeq (msAsg (mN gLst (mCons (mIf (mTru (mVar 7)) (mCall Q.F_law_closed (mCons (mVar 1) (mCons (mVar 2) (mCons (mVar 5) mNil)))) (mK (.str "!answer"))) (mCons (mVar 7) (mCons (mCall Q.F_law_rank (mCons (mCall Q.F_law_chosen (mCons (mVar 2) (mCons (mVar 5) mNil))) (mCons (mVar 1) mNil))) mNil)))) (mgName 8)) (msSeq (msAsg (mN gList (mCons (mVar 5) mNil)) (mgName 9)) (msSeq (msFor (mItN gRange1 (mCons (mK (.int 3)) mNil)) (mgName 10) m_law_sets_b1) (msSeq (msAsg (mN gTuple (mCons (mVar 5) mNil)) (mgName 11)) (msIf (mTest (m2 gNe (mN gRepr (mCons (mCall Q.Fis_flat_v2 (mCons (mVar 3) (mCons (mVar 11) mNil))) mNil)) (mN gRepr (mCons (mAnd (mVar 7) (m2 gEq (m2 gIx (mVar 8) (mK (.int 0))) (mVar 11))) mNil)))) (msRet (mK (.bl false))) msNil)))))))))
def m_law_sets : MS := (msSeq (msFor (mItN gRange1 (mCons (mK (.int 3)) mNil)) (mgName 4) m_law_sets_b2) (msRet (mK (.bl true))))
def F_law_sets : FN := runM 12 4 [] false m_law_sets
def m_law_pairs_t0 : MT := (mTest (m2 gNotIn (mVar 9) (mVar 6)))
def m_law_pairs_t1 : MT := (mTest (m2 gIn (mVar 9) (mVar 7)))
def m_law_pairs_b2 : MS := (msSeq (msAsg (m2 gIx (mVar 4) (m2 gMod (mN gInt (mCons (mCallIo Q.F_law_next 0 mNil) mNil)) (mN gLen (mCons (mVar 4) mNil)))) (mgName 6)) (msSeq (msAsg (m2 gIx (mVar 4) (m2 gMod (mN gInt (mCons (mCallIo Q.F_law_next 0 mNil) mNil)) (mN gLen (mCons (mVar 4) mNil)))) (mgName 7)) (msSeq (msAsg (m2 gAdd (mVar 6) (mN gTuple (mCons (mLc [9] (mIter (mVar 7)) (mgName 9) m_law_pairs_t0 (mVar 9)) mNil))) (mgName 8)) (msSeq (msAsg (mK .non) (mgName 10)) (msSeq (msIf (mTru (mCall Q.F_law_is_met (mCons (mVar 1) (mCons (mVar 2) (mCons (mVar 8) mNil))))) (msAsg (mCall Q.F_law_closed (mCons (mVar 1) (mCons (mVar 2) (mCons (mVar 8) mNil)))) (mgName 10)) msNil) (msSeq (msIf (mTest (m2 gNe (mN gRepr (mCons (mCall F_law_told (mCons (mK (.int 4)) (mCons (mVar 3) (mCons (mVar 6) (mCons (mVar 7) mNil))))) mNil)) (mN gRepr (mCons (mN gTuple (mCons (mLc [9] (mIter (mVar 6)) (mgName 9) m_law_pairs_t1 (mVar 9)) mNil)) mNil)))) (msRet (mK (.bl false))) msNil) (msSeq (msIf (mTest (m2 gNe (mN gRepr (mCons (mCall F_law_told (mCons (mK (.int 5)) (mCons (mVar 3) (mCons (mVar 6) (mCons (mVar 7) mNil))))) mNil)) (mN gRepr (mCons (mVar 10) mNil)))) (msRet (mK (.bl false))) msNil) (msIf (mTest (m2 gNe (mN gRepr (mCons (mCall F_law_told (mCons (mK (.int 3)) (mCons (mVar 3) (mCons (mVar 6) (mCons (mVar 7) mNil))))) mNil)) (mN gRepr (mCons (m2 gSub (mVar 1) (mCall Q.F_law_rank (mCons (mCall Q.F_law_chosen (mCons (mVar 2) (mCons (mVar 6) mNil))) (mCons (mVar 1) mNil)))) mNil)))) (msRet (mK (.bl false))) msNil))))))))
def m_law_pairs : MS := (msSeq (msFor (mItN gRange1 (mCons (mK (.int 3)) mNil)) (mgName 5) m_law_pairs_b2) (msRet (mK (.bl true))))
def F_law_pairs : FN := runM 11 5 [] false m_law_pairs
def mlaw_s0 : MS := (msOwn 1 (mCall Q.F_law_draws_v2 (mCons (mVar 0) mNil)))
def mlaw_s1 : MS := (msAsg (m2 gAdd (mK (.int 1)) (m2 gMod (mN gInt (mCons (mCallIo Q.F_law_next 1 mNil) mNil)) (mK (.int 3)))) (mgName 2))
def mlaw_s2 : MS := (msAsg (mCallIo Q.F_law_rows 1 (mCons (mVar 2) (mCons (mK (.int 6)) mNil))) (mgName 3))
def mlaw_s3 : MS := (msAsg (mMake "Planes" Q.FPlanes_init (mCons (mVar 2) (mCons (mVar 3) mNil))) (mgName 4))
def mlaw_s4 : MS := (msAsg (mCall Q.F_law_web (mCons (mVar 2) (mCons (mVar 3) mNil))) (mgName 5))
def mlaw_e5 : ME := (m2 gIs (mCall Q.Fis_flat_v2 (mCons (mVar 4) (mCons (mVar 6) mNil))) (mK (.bl true)))
def mlaw_s6 : MS := (msIf (mOrT (mTest (m2 gNe (mN gRepr (mCons (mCall Q.Fweb_v2 (mCons (mVar 4) mNil)) mNil)) (mN gRepr (mCons (mVar 5) mNil)))) (mNotT (mTru (mN gAll (mCons (mLc [6] (mIter (mVar 5)) (mgName 6) mYes mlaw_e5) mNil))))) (msRet (mK (.bl false))) msNil)
def mlaw_s7 : MS := (msIf (mOrT (mNotT (mTru (mCallIo F_law_sets 1 (mCons (mVar 2) (mCons (mVar 3) (mCons (mVar 4) mNil)))))) (mNotT (mTru (mCallIo F_law_pairs 1 (mCons (mVar 2) (mCons (mVar 3) (mCons (mVar 4) (mCons (mVar 5) mNil)))))))) (msRet (mK (.bl false))) msNil)
def mlaw_s8 : MS := (msAsg (m2 gIx (mN gLst (mCons (mN gTup (mCons (mN gLen (mCons (mVar 3) mNil)) mNil)) (mCons (mN gTup (mCons (m1 gNeg (mK (.int 1))) mNil)) (mCons (mN gTup (mCons (mK (.int 1)) (mCons (mK (.int 0)) mNil))) (mCons (mN gTup (mCons (mK (.int 0)) (mCons (mK (.int 0)) mNil))) (mCons (mN gTup (mCons (mK (.int 0)) (mCons (mK (.int 12)) mNil))) mNil)))))) (m2 gMod (mN gInt (mCons (mCallIo Q.F_law_next 1 mNil) mNil)) (mK (.int 5)))) (mgName 7))
def mlaw_s9 : MS := (msIf (mOrT (mTest (m2 gIsNot (mCall Q.Fis_flat_v2 (mCons (mVar 4) (mCons (mVar 7) mNil))) (mK (.bl false)))) (mTest (m2 gNe (mCall F_law_told (mCons (mK (.int 3)) (mCons (mVar 4) (mCons (mVar 7) (mCons (mN gTup mNil) mNil))))) (mK (.str "!flat"))))) (msRet (mK (.bl false))) msNil)
def mlaw_s10 : MS := (msIf (mOrT (mTest (m2 gNe (mCall F_law_told (mCons (mK (.int 4)) (mCons (mVar 4) (mCons (mN gTup mNil) (mCons (mVar 7) mNil))))) (mK (.str "!flat")))) (mTest (m2 gNe (mCall F_law_told (mCons (mK (.int 5)) (mCons (mVar 4) (mCons (mVar 7) (mCons (mVar 7) mNil))))) (mK (.str "!flat"))))) (msRet (mK (.bl false))) msNil)
def mlaw_e11 : ME := (m2 gEq (mCall F_law_told (mCons (mVar 9) (mCons (mVar 4) (mCons (mN gLst (mCons (mVar 8) mNil)) (mCons (mN gTup mNil) mNil))))) (mK (.str "!number")))
def mlaw_b12 : MS := (msIf (mNotT (mTru (mN gAll (mCons (mLc [9] (mItN gRange1 (mCons (mK (.int 3)) mNil)) (mgName 9) mYes mlaw_e11) mNil)))) (msRet (mK (.bl false))) msNil)
def mlaw_s13 : MS := (msFor (mIter (mN gLst (mCons (m1 gNeg (mK (.int 1))) (mCons (mN gLen (mCons (mVar 3) mNil)) mNil)))) (mgName 8) mlaw_b12)
def mlaw : MS := (msForget 1 (msSeq mlaw_s0 (msSeq mlaw_s1 (msSeq mlaw_s2 (msSeq mlaw_s3 (msSeq mlaw_s4 (msSeq mlaw_s6 (msSeq mlaw_s7 (msSeq mlaw_s8 (msSeq mlaw_s9 (msSeq mlaw_s10 (msSeq mlaw_s13 (msRet (mK (.bl true)))))))))))))))
def Flaw : FN := runM 10 1 [] false mlaw
section
variable {w : World} {K : PySem.W.Frag} {mg : Str → Option Value}
abbrev N_law_number : List Str := ["cell"]
theorem c_law_number : FnScope N_law_number ["cell"] (defScope s_law_number) := ⟨rfl, rfl, rfl, by decide +kernel, rfl, by decide +kernel, by decide +kernel⟩
theorem g_law_number (fc : Fc K mg) : Ok prog w K mg 1 "_law_number" false false Q.F_law_number := by
  intro base
  obtain ⟨fd, F⟩ := fc.d__law_number
  refine fnG_of (ps := ["cell"]) (N := N_law_number) (O := []) (O' := []) F c_law_number (F.bindsN fun _ _ _ _ _ _ us hl => match us, hl with | [_], _ => rfl) .nil (fun _ _ => .nil) (by decide) (by decide) (by decide) fun cdv A outer s H E A0 q hio hr hg => ?_
  obtain rfl : q = none := by cases q with
    | none => rfl
    | some _ => cases hio
  have hu := Room.u64 hr
  have hv := Room.u65 hr
  exact (dss_cons (ds_if trivial (dt_cmp od_lt (v_ 0) de_int (pm _ _)) (dss_one (ds_ret trivial (de_bin od_sub de_int (v_ 0)))) dss_nil) (dss_one (ds_ret trivial (v_ 0))))
abbrev N_law_draws : List Str := ["script", "draws", "cell", "rest", "k", "once", "twice"]
theorem c_law_draws : FnScope N_law_draws ["script"] (defScope s_law_draws) := ⟨rfl, rfl, rfl, by decide +kernel, rfl, by decide +kernel, by decide +kernel⟩
theorem g_law_draws (fc : Fc K mg) : Ok prog w K mg 2 "_law_draws" false true Q.F_law_draws_v2 := by
  intro base
  obtain ⟨fd, F⟩ := fc.d__law_draws
  refine fnG_of (ps := ["script"]) (N := N_law_draws) (O := []) (O' := []) F c_law_draws (F.bindsN fun _ _ _ _ _ _ us hl => match us, hl with | [_], _ => rfl) .nil (fun _ _ => .nil) (by decide) (by decide) (by decide) fun cdv A outer s H E A0 q hio hr hg => ?_
  obtain rfl : q = none := by cases q with
    | none => rfl
    | some _ => cases hio
  have hu := Room.u64 hr
  have hv := Room.u65 hr
  exact (dss_forgetO 1 (.inl (by decide)) (dss_cons (ds_own trivial (df_lst da_nil) rfl (.inl (by decide)) c_law_draws.nd rfl (Or.inl rfl)) (dss_cons (ds_for (vs := [2]) trivial cx_pw rfl (di_seq (v_ 0)) (dg_name rfl rfl c_law_draws.nd rfl (Or.inl rfl)) (dss_cons (ds_asg (vs := [3]) trivial (de_call (g_law_number fc _) (hr.mono (by decide)) hg cx_tk (by rfl) fc.g__law_number (da_cons (v_ 2) da_nil)) (dg_name rfl rfl c_law_draws.nd rfl (Or.inl rfl))) (dss_one (ds_if trivial (dt_cmp od_ge (v_ 3) de_int (pm _ _)) (dss_one (ds_for (vs := [4]) trivial cx_pw rfl (di_range1 (by rfl) fc.f_range (da_cons de_int da_nil)) (dg_name rfl rfl c_law_draws.nd rfl (Or.inl rfl)) (dss_cons (ds_if trivial (dt_cmp (od_eq hu) (v_ 3) de_int (pm _ _)) (dss_one ds_brk) dss_nil) (dss_cons (ds_expr trivial (de_om om_append PySem.F.slot_list_append PySem.F.type_list_append (by rfl) (pv 1) (da_cons (de_bin od_mod (de_ty bt_int b_int (by rfl) fc.f_int (da_cons (v_ 3) da_nil)) de_int) da_nil))) (dss_one (ds_asg (vs := [3]) trivial (de_bin od_div (v_ 3) de_int) (dg_name rfl rfl c_law_draws.nd rfl (Or.inl rfl)))))))) (dss_cons (ds_asg (vs := [5]) trivial (de_bin od_mod (de_ty bt_int b_int (by rfl) fc.f_int (da_cons (de_bin od_add (de_bin od_mul (v_ 3) de_int) de_int) da_nil)) de_int) (dg_name rfl rfl c_law_draws.nd rfl (Or.inl rfl))) (dss_cons (ds_asg (vs := [6]) trivial (de_bin od_mod (de_ty bt_int b_int (by rfl) fc.f_int (da_cons (de_bin od_add (de_bin od_mul (v_ 5) de_int) (v_ 3)) da_nil)) de_int) (dg_name rfl rfl c_law_draws.nd rfl (Or.inl rfl))) (dss_one (ds_expr trivial (de_om om_extend PySem.F.slot_list_extend PySem.F.type_list_extend (by rfl) (pv 1) (da_cons (DF.toE (df_lst (da_cons (de_bin od_mod (de_ty bt_int b_int (by rfl) fc.f_int (da_cons (v_ 3) da_nil)) de_int) (da_cons (de_bin od_mod (de_ty bt_int b_int (by rfl) fc.f_int (da_cons (v_ 5) da_nil)) de_int) (da_cons (de_bin od_mod (de_ty bt_int b_int (by rfl) fc.f_int (da_cons (v_ 6) da_nil)) de_int) da_nil))))) da_nil)))))))))) (dss_cons (ds_expr trivial (de_om0 om_reverse PySem.F.slot_list_reverse PySem.F.type_list_reverse (by rfl) (pv 1))) (dss_one (ds_retO rfl (.inl (by decide)) (pv 1)))))))
abbrev N_law_divisor : List Str := ["a", "b", "one", "other", "j"]
theorem c_law_divisor : FnScope N_law_divisor ["a", "b"] (defScope s_law_divisor) := ⟨rfl, rfl, rfl, by decide +kernel, rfl, by decide +kernel, by decide +kernel⟩
theorem g_law_divisor (fc : Fc K mg) : Ok prog w K mg 1 "_law_divisor" false false Q.F_law_divisor := by
  intro base
  obtain ⟨fd, F⟩ := fc.d__law_divisor
  refine fnG_of (ps := ["a", "b"]) (N := N_law_divisor) (O := []) (O' := []) F c_law_divisor (F.bindsN fun _ _ _ _ _ _ us hl => match us, hl with | [_, _], _ => rfl) .nil (fun _ _ => .nil) (by decide) (by decide) (by decide) fun cdv A outer s H E A0 q hio hr hg => ?_
  obtain rfl : q = none := by cases q with
    | none => rfl
    | some _ => cases hio
  have hu := Room.u64 hr
  have hv := Room.u65 hr
  exact (dss_cons (ds_asg (vs := [2]) trivial (de_b bt_abs b_abs (by rfl) fc.f_abs (da_cons (v_ 0) da_nil)) (dg_name rfl rfl c_law_divisor.nd rfl (Or.inl rfl))) (dss_cons (ds_asg (vs := [3]) trivial (de_b bt_abs b_abs (by rfl) fc.f_abs (da_cons (v_ 1) da_nil)) (dg_name rfl rfl c_law_divisor.nd rfl (Or.inl rfl))) (dss_cons (ds_for (vs := [4]) trivial cx_pw rfl (di_range1 (by rfl) fc.f_range (da_cons (de_bin od_pow de_int de_int) da_nil)) (dg_name rfl rfl c_law_divisor.nd rfl (Or.inl rfl)) (dss_cons (ds_if trivial (dt_cmp (od_eq hu) (v_ 3) de_int (pm _ _)) (dss_one ds_brk) dss_nil) (dss_one (ds_par (i := 2) (j := 3) trivial rfl c_law_divisor.nd rfl rfl (by decide) rfl rfl rfl rfl (da_cons (v_ 3) (da_cons (de_bin od_mod (de_ty bt_int b_int (by rfl) fc.f_int (da_cons (v_ 2) da_nil)) (v_ 3)) da_nil)))))) (dss_one (ds_ret trivial (v_ 2))))))
abbrev N_law_short : List Str := ["row", "common", "entry"]
theorem c_law_short : FnScope N_law_short ["row"] (defScope s_law_short) := ⟨rfl, rfl, rfl, by decide +kernel, rfl, by decide +kernel, by decide +kernel⟩
theorem g_law_short (fc : Fc K mg) : Ok prog w K mg 2 "_law_short" false false Q.F_law_short := by
  intro base
  obtain ⟨fd, F⟩ := fc.d__law_short
  refine fnG_of (ps := ["row"]) (N := N_law_short) (O := []) (O' := []) F c_law_short (F.bindsN fun _ _ _ _ _ _ us hl => match us, hl with | [_], _ => rfl) .nil (fun _ _ => .nil) (by decide) (by decide) (by decide) fun cdv A outer s H E A0 q hio hr hg => ?_
  obtain rfl : q = none := by cases q with
    | none => rfl
    | some _ => cases hio
  have hu := Room.u64 hr
  have hv := Room.u65 hr
  exact (dss_cons (ds_asg (vs := [1]) trivial de_int (dg_name rfl rfl c_law_short.nd rfl (Or.inr rfl))) (dss_cons (ds_for (vs := [2]) trivial cx_pw rfl (di_seq (v_ 0)) (dg_name rfl rfl c_law_short.nd rfl (Or.inl rfl)) (dss_one (ds_asg (vs := [1]) trivial (de_call (g_law_divisor fc _) (hr.mono (by decide)) hg cx_tk (by rfl) fc.g__law_divisor (da_cons (v_ 1) (da_cons (v_ 2) da_nil))) (dg_name rfl rfl c_law_short.nd rfl (Or.inr rfl))))) (dss_cons (ds_if trivial (dt_cmp od_lt (v_ 1) de_int (pm _ _)) (dss_one (ds_ret trivial (de_ty bt_tuple b_tuple (by rfl) fc.f_tuple (da_cons (v_ 0) da_nil)))) dss_nil) (dss_one (ds_ret trivial (de_ty bt_tuple b_tuple (by rfl) fc.f_tuple (da_cons (DF.toE (df_lc (by rfl) c_law_short.nd (by rfl) (di_seq (v_ 0)) (blkOk_by (own := [("entry", 2)]) (by kernel_rfl)) (fun _ _ _ _ _ => (dg_name rfl rfl c_law_short.nd rfl (Or.inl rfl))) (fun _ _ _ _ _ => pts_nil) tYes_go (fun _ _ _ _ _ => (de_bin od_div (v_ 2) (v_ 1))))) da_nil)))))))
abbrev N_law_next : List Str := ["draws"]
theorem c_law_next : FnScope N_law_next ["draws"] (defScope s_law_next) := ⟨rfl, rfl, rfl, by decide +kernel, rfl, by decide +kernel, by decide +kernel⟩
theorem g_law_next (fc : Fc K mg) : Ok prog w K mg 1 "_law_next" true false Q.F_law_next := by
  intro base
  obtain ⟨fd, F⟩ := fc.d__law_next
  refine fnG_of (ps := ["draws"]) (N := N_law_next) (O := [0]) (O' := []) F c_law_next (F.bindsN fun _ _ _ _ _ _ us hl => match us, hl with | [_], _ => rfl) .nil (fun _ _ => .nil) (by decide) (by decide) (by decide) fun cdv A outer s H E A0 q hio hr hg => ?_
  have hu := Room.u64 hr
  have hv := Room.u65 hr
  exact (dss_cons (ds_if trivial (dt_truO (by rfl) (pv 0)) (dss_one (ds_ret trivial (de_om0 om_pop PySem.F.slot_list_pop PySem.F.type_list_pop (by rfl) (pv 0)))) dss_nil) (dss_one (ds_ret trivial de_int)))
abbrev N_law_rows : List Str := ["draws", "n", "most", "central", "rows", "j", "row", "k", "last", "entry"]
theorem c_law_rows : FnScope N_law_rows ["draws", "n", "most"] (defScope s_law_rows) := ⟨rfl, rfl, rfl, by decide +kernel, rfl, by decide +kernel, by decide +kernel⟩
theorem g_law_rows (fc : Fc K mg) : Ok prog w K mg 3 "_law_rows" true false Q.F_law_rows := by
  intro base
  obtain ⟨fd, F⟩ := fc.d__law_rows
  refine fnG_of (ps := ["draws", "n", "most"]) (N := N_law_rows) (O := [0]) (O' := []) F c_law_rows (F.bindsN fun _ _ _ _ _ _ us hl => match us, hl with | [_, _, _], _ => rfl) .nil (fun _ _ => .nil) (by decide) (by decide) (by decide) fun cdv A outer s H E A0 q hio hr hg => ?_
  have hu := Room.u64 hr
  have hv := Room.u65 hr
  exact (dss_cons (ds_asg (vs := [3]) trivial (de_cmp (od_eq hu) (de_bin od_mod (de_ty bt_int b_int (by rfl) fc.f_int (da_cons (de_callio (g_law_next fc _) (hr.mono (by decide)) hg cx_tk (by rfl) fc.g__law_next (by rfl) (pv 0) da_nil) da_nil)) de_int) de_int (pm _ _)) (dg_name rfl rfl c_law_rows.nd rfl (Or.inl rfl))) (dss_forgetO 4 (.inl (by decide)) (dss_cons (ds_own trivial (df_lst da_nil) rfl (.inl (by decide)) c_law_rows.nd rfl (Or.inl rfl)) (dss_cons (ds_for (vs := [5]) trivial cx_pw rfl (di_range1 (by rfl) fc.f_range (da_cons (de_bin od_mod (de_ty bt_int b_int (by rfl) fc.f_int (da_cons (de_callio (g_law_next fc _) (hr.mono (by decide)) hg cx_tk (by rfl) fc.g__law_next (by rfl) (pv 0) da_nil) da_nil)) (de_bin od_add (v_ 2) de_int)) da_nil)) (dg_name rfl rfl c_law_rows.nd rfl (Or.inl rfl)) (dss_forgetO 6 (.inl (by decide)) (dss_cons (ds_ownLc trivial rfl (.inl (by decide)) rfl c_law_rows.nd rfl rfl (sw_true rfl rfl rfl (by kernel_rfl)) (by rfl) (di_range1 (by rfl) fc.f_range (da_cons (v_ 1) da_nil)) (blkOk_by (own := [("k", 7)]) (by kernel_rfl)) (fun _ _ _ _ _ => (dg_name rfl rfl c_law_rows.nd rfl (Or.inl rfl))) (fun _ _ _ _ _ => pts_nil) tYes_go (fun _ _ _ _ _ => (de_bin od_sub (de_bin od_mod (de_ty bt_int b_int (by rfl) fc.f_int (da_cons (de_callio (g_law_next fc _) (hr.mono (by decide)) hg (takes0 (by rfl)) (by rfl) fc.g__law_next (by rfl) (pv 0) da_nil) da_nil)) de_int) de_int))) (dss_cons (ds_if trivial (dt_not (dt_tru (de_bO (by rfl) bt_any (b_anyI (by rfl)) (by rfl) fc.f_any (pv 6)))) (dss_one (ds_asg (vs := []) trivial de_int (dg_sub (by rfl) (pv 6) (de_bin od_mod (de_ty bt_int b_int (by rfl) fc.f_int (da_cons (de_callio (g_law_next fc _) (hr.mono (by decide)) hg takesF (by rfl) fc.g__law_next (by rfl) (pv 0) da_nil) da_nil)) (v_ 1))))) dss_nil) (dss_cons (ds_asg (vs := [8]) trivial (de_if (dt_tru (v_ 3)) de_int (de_bin od_sub (de_bin od_mod (de_ty bt_int b_int (by rfl) fc.f_int (da_cons (de_callio (g_law_next fc _) (hr.mono (by decide)) hg cx_tk (by rfl) fc.g__law_next (by rfl) (pv 0) da_nil) da_nil)) de_int) de_int)) (dg_name rfl rfl c_law_rows.nd rfl (Or.inl rfl))) (dss_freeze 6 (.inl (by decide)) (dss_cons (ds_asg (vs := [6]) trivial (de_call (g_law_short fc _) (hr.mono (by decide)) hg cx_tk (by rfl) fc.g__law_short (da_cons (de_bin od_add (v_ 6) (DF.toE (df_lst (da_cons (v_ 8) da_nil)))) da_nil)) (dg_name rfl rfl c_law_rows.nd rfl (Or.inl rfl))) (dss_one (ds_if trivial (DW.t (dw_and (dt_cmpB (od_notin hv) no_gNotIn (db_e (v_ 6)) (db_o (by rfl) (pv 4)) (pm _ _)) (dw_and1 (dt_cmpB (od_notin hv) no_gNotIn (db_e (de_ty bt_tuple b_tuple (by rfl) fc.f_tuple (da_cons (DF.toE (df_lc (by rfl) c_law_rows.nd (by rfl) (di_seq (v_ 6)) (blkOk_by (own := [("entry", 9)]) (by kernel_rfl)) (fun _ _ _ _ _ => (dg_name rfl rfl c_law_rows.nd rfl (Or.inl rfl))) (fun _ _ _ _ _ => pts_nil) tYes_go (fun _ _ _ _ _ => (de_bin od_sub de_int (v_ 9))))) da_nil))) (db_o (by rfl) (pv 4)) (pm _ _))))) (dss_one (ds_expr trivial (de_om om_append PySem.F.slot_list_append PySem.F.type_list_append (by rfl) (pv 4) (da_cons (v_ 6) da_nil)))) dss_nil))))))))) (dss_one (ds_retOv rfl (.inl (by decide)) (pv 4)))))))
abbrev N_law_subsets : List Str := ["count", "found", "index", "one"]
theorem c_law_subsets : FnScope N_law_subsets ["count"] (defScope s_law_subsets) := ⟨rfl, rfl, rfl, by decide +kernel, rfl, by decide +kernel, by decide +kernel⟩
theorem g_law_subsets (fc : Fc K mg) : Ok prog w K mg 1 "_law_subsets" false false Q.F_law_subsets := by
  intro base
  obtain ⟨fd, F⟩ := fc.d__law_subsets
  refine fnG_of (ps := ["count"]) (N := N_law_subsets) (O := []) (O' := []) F c_law_subsets (F.bindsN fun _ _ _ _ _ _ us hl => match us, hl with | [_], _ => rfl) .nil (fun _ _ => .nil) (by decide) (by decide) (by decide) fun cdv A outer s H E A0 q hio hr hg => ?_
  obtain rfl : q = none := by cases q with
    | none => rfl
    | some _ => cases hio
  have hu := Room.u64 hr
  have hv := Room.u65 hr
  exact (dss_cons (ds_asg (vs := [1]) trivial (DF.toE (df_lst (da_cons (de_tup da_nil) da_nil))) (dg_name rfl rfl c_law_subsets.nd rfl (Or.inl rfl))) (dss_cons (ds_for (vs := [2]) trivial cx_pw rfl (di_range1 (by rfl) fc.f_range (da_cons (v_ 0) da_nil)) (dg_name rfl rfl c_law_subsets.nd rfl (Or.inr rfl)) (dss_one (ds_asg (vs := [1]) trivial (de_bin od_add (v_ 1) (DF.toE (df_lc (by rfl) c_law_subsets.nd (by rfl) (di_seq (v_ 1)) (blkOk_by (own := [("one", 3)]) (by kernel_rfl)) (fun _ _ _ _ _ => (dg_name rfl rfl c_law_subsets.nd rfl (Or.inl rfl))) (fun _ _ _ _ _ => pts_nil) tYes_go (fun _ _ _ _ _ => (de_bin od_add (v_ 3) (de_tup (da_cons (v_ 2) da_nil))))))) (dg_name rfl rfl c_law_subsets.nd rfl (Or.inl rfl))))) (dss_one (ds_ret trivial (v_ 1)))))
abbrev N_law_chosen : List Str := ["rows", "indexes", "index"]
theorem c_law_chosen : FnScope N_law_chosen ["rows", "indexes"] (defScope s_law_chosen) := ⟨rfl, rfl, rfl, by decide +kernel, rfl, by decide +kernel, by decide +kernel⟩
theorem g_law_chosen (fc : Fc K mg) : Ok prog w K mg 1 "_law_chosen" false false Q.F_law_chosen := by
  intro base
  obtain ⟨fd, F⟩ := fc.d__law_chosen
  refine fnG_of (ps := ["rows", "indexes"]) (N := N_law_chosen) (O := []) (O' := []) F c_law_chosen (F.bindsN fun _ _ _ _ _ _ us hl => match us, hl with | [_, _], _ => rfl) .nil (fun _ _ => .nil) (by decide) (by decide) (by decide) fun cdv A outer s H E A0 q hio hr hg => ?_
  obtain rfl : q = none := by cases q with
    | none => rfl
    | some _ => cases hio
  have hu := Room.u64 hr
  have hv := Room.u65 hr
  exact (dss_one (ds_ret trivial (DF.toE (df_lc (by rfl) c_law_chosen.nd (by rfl) (di_seq (v_ 1)) (blkOk_by (own := [("index", 2)]) (by kernel_rfl)) (fun _ _ _ _ _ => (dg_name rfl rfl c_law_chosen.nd rfl (Or.inl rfl))) (fun _ _ _ _ _ => pts_nil) tYes_go (fun _ _ _ _ _ => (de_ix ix_d (v_ 0) (v_ 2) (fun _ _ => rfl)))))))
abbrev N_law_rank : List Str := ["rows", "width", "found", "row", "place", "own", "j", "places"]
theorem c_law_rank : FnScope N_law_rank ["rows", "width"] (defScope s_law_rank) := ⟨rfl, rfl, rfl, by decide +kernel, rfl, by decide +kernel, by decide +kernel⟩
theorem g_law_rank (fc : Fc K mg) : Ok prog w K mg 3 "_law_rank" false false Q.F_law_rank := by
  intro base
  obtain ⟨fd, F⟩ := fc.d__law_rank
  refine fnG_of (ps := ["rows", "width"]) (N := N_law_rank) (O := []) (O' := []) F c_law_rank (F.bindsN fun _ _ _ _ _ _ us hl => match us, hl with | [_, _], _ => rfl) .nil (fun _ _ => .nil) (by decide) (by decide) (by decide) fun cdv A outer s H E A0 q hio hr hg => ?_
  obtain rfl : q = none := by cases q with
    | none => rfl
    | some _ => cases hio
  have hu := Room.u64 hr
  have hv := Room.u65 hr
  exact (dss_forgetO 2 (.inl (by decide)) (dss_cons (ds_own trivial (df_lst da_nil) rfl (.inl (by decide)) c_law_rank.nd rfl (Or.inl rfl)) (dss_cons (ds_for (vs := [3]) trivial cx_pw rfl (di_seq (v_ 0)) (dg_name rfl rfl c_law_rank.nd rfl (Or.inr rfl)) (dss_cons (ds_forO (vs := [4, 5]) cx_pw rfl (by rfl) (.inl (by decide)) rfl (pv 2) (fun _ _ => (dg_tup rfl (dgs_cons (dg_name rfl rfl c_law_rank.nd rfl (Or.inr rfl)) (dgs_cons (dg_name rfl rfl c_law_rank.nd rfl (Or.inr rfl)) dgs_nil)))) (fun _ _ => (dss_one (ds_if trivial (dt_cmp (od_ne hu) (de_ix ix_d (v_ 3) (v_ 4) (fun _ _ => rfl)) de_int (pm _ _)) (dss_one (ds_asg (vs := [3]) trivial (de_call (g_law_short fc _) (hr.mono (by decide)) hg cx_tk (by rfl) fc.g__law_short (da_cons (DF.toE (df_lc (by rfl) c_law_rank.nd (by rfl) (di_range1 (by rfl) fc.f_range (da_cons (de_b bt_len b_len (by rfl) fc.f_len (da_cons (v_ 3) da_nil)) da_nil)) (blkOk_by (own := [("j", 6)]) (by kernel_rfl)) (fun _ _ _ _ _ => (dg_name rfl rfl c_law_rank.nd rfl (Or.inl rfl))) (fun _ _ _ _ _ => pts_nil) tYes_go (fun _ _ _ _ _ => (de_bin od_sub (de_bin od_mul (de_ix ix_d (v_ 5) (v_ 4) (fun _ _ => rfl)) (de_ix ix_d (v_ 3) (v_ 6) (fun _ _ => rfl))) (de_bin od_mul (de_ix ix_d (v_ 3) (v_ 4) (fun _ _ => rfl)) (de_ix ix_d (v_ 5) (v_ 6) (fun _ _ => rfl))))))) da_nil)) (dg_name rfl rfl c_law_rank.nd rfl (Or.inr rfl)))) dss_nil)))) (dss_cons (ds_setLc1 trivial rfl rfl c_law_rank.nd rfl rfl (sw_true rfl rfl rfl (by kernel_rfl)) (by rfl) (di_range1 (by rfl) fc.f_range (da_cons (v_ 1) da_nil)) (blkOk_by (own := [("place", 4)]) (by kernel_rfl)) (fun _ _ _ _ _ => (dg_name rfl rfl c_law_rank.nd rfl (Or.inl rfl))) (fun _ _ _ _ _ => (dt_cmp (od_ne hu) (de_ix ix_d (v_ 3) (v_ 4) (fun _ _ => rfl)) de_int (pm _ _)))  (fun _ _ _ _ _ => (v_ 4))) (dss_one (ds_if trivial (dt_tru (v_ 7)) (dss_one (ds_expr trivial (de_om om_append PySem.F.slot_list_append PySem.F.type_list_append (by rfl) (pv 2) (da_cons (de_tup (da_cons (de_ix ix_d (v_ 7) de_int (fun _ _ => rfl)) (da_cons (v_ 3) da_nil))) da_nil)))) dss_nil))))) (dss_one (ds_ret trivial (de_bO (by rfl) bt_len b_len (by rfl) fc.f_len (pv 2)))))))
abbrev N_law_is_met : List Str := ["n", "rows", "indexes", "some"]
theorem c_law_is_met : FnScope N_law_is_met ["n", "rows", "indexes"] (defScope s_law_is_met) := ⟨rfl, rfl, rfl, by decide +kernel, rfl, by decide +kernel, by decide +kernel⟩
theorem g_law_is_met (fc : Fc K mg) : Ok prog w K mg 4 "_law_is_met" false false Q.F_law_is_met := by
  intro base
  obtain ⟨fd, F⟩ := fc.d__law_is_met
  refine fnG_of (ps := ["n", "rows", "indexes"]) (N := N_law_is_met) (O := []) (O' := []) F c_law_is_met (F.bindsN fun _ _ _ _ _ _ us hl => match us, hl with | [_, _, _], _ => rfl) .nil (fun _ _ => .nil) (by decide) (by decide) (by decide) fun cdv A outer s H E A0 q hio hr hg => ?_
  obtain rfl : q = none := by cases q with
    | none => rfl
    | some _ => cases hio
  have hu := Room.u64 hr
  have hv := Room.u65 hr
  exact (dss_cons (ds_asg (vs := [3]) trivial (de_call (g_law_chosen fc _) (hr.mono (by decide)) hg cx_tk (by rfl) fc.g__law_chosen (da_cons (v_ 1) (da_cons (v_ 2) da_nil))) (dg_name rfl rfl c_law_is_met.nd rfl (Or.inl rfl))) (dss_one (ds_ret trivial (de_cmp (od_eq hu) (de_call (g_law_rank fc _) (hr.mono (by decide)) hg cx_tk (by rfl) fc.g__law_rank (da_cons (v_ 3) (da_cons (v_ 0) da_nil))) (de_call (g_law_rank fc _) (hr.mono (by decide)) hg cx_tk (by rfl) fc.g__law_rank (da_cons (v_ 3) (da_cons (de_bin od_add (v_ 0) de_int) da_nil))) (pm _ _)))))
abbrev N_law_closed : List Str := ["n", "rows", "indexes", "some", "rank", "at"]
theorem c_law_closed : FnScope N_law_closed ["n", "rows", "indexes"] (defScope s_law_closed) := ⟨rfl, rfl, rfl, by decide +kernel, rfl, by decide +kernel, by decide +kernel⟩
theorem g_law_closed (fc : Fc K mg) : Ok prog w K mg 4 "_law_closed" false false Q.F_law_closed := by
  intro base
  obtain ⟨fd, F⟩ := fc.d__law_closed
  refine fnG_of (ps := ["n", "rows", "indexes"]) (N := N_law_closed) (O := []) (O' := []) F c_law_closed (F.bindsN fun _ _ _ _ _ _ us hl => match us, hl with | [_, _, _], _ => rfl) .nil (fun _ _ => .nil) (by decide) (by decide) (by decide) fun cdv A outer s H E A0 q hio hr hg => ?_
  obtain rfl : q = none := by cases q with
    | none => rfl
    | some _ => cases hio
  have hu := Room.u64 hr
  have hv := Room.u65 hr
  exact (dss_cons (ds_asg (vs := [3]) trivial (de_call (g_law_chosen fc _) (hr.mono (by decide)) hg cx_tk (by rfl) fc.g__law_chosen (da_cons (v_ 1) (da_cons (v_ 2) da_nil))) (dg_name rfl rfl c_law_closed.nd rfl (Or.inr rfl))) (dss_cons (ds_asg (vs := [4]) trivial (de_call (g_law_rank fc _) (hr.mono (by decide)) hg cx_tk (by rfl) fc.g__law_rank (da_cons (v_ 3) (da_cons (de_bin od_add (v_ 0) de_int) da_nil))) (dg_name rfl rfl c_law_closed.nd rfl (Or.inr rfl))) (dss_one (ds_ret trivial (de_ty bt_tuple b_tuple (by rfl) fc.f_tuple (da_cons (DF.toE (df_lc1 (by rfl) c_law_closed.nd (by rfl) (di_range1 (by rfl) fc.f_range (da_cons (de_b bt_len b_len (by rfl) fc.f_len (da_cons (v_ 1) da_nil)) da_nil)) (blkOk_by (own := [("at", 5)]) (by kernel_rfl)) (fun _ _ _ _ _ => (dg_name rfl rfl c_law_closed.nd rfl (Or.inl rfl))) (fun _ _ _ _ _ => (dt_cmp (od_eq hu) (de_call (g_law_rank fc _) (hr.mono (by decide)) hg (takes0 (by rfl)) (by rfl) fc.g__law_rank (da_cons (de_bin od_add (v_ 3) (DF.toE (df_lst (da_cons (de_ix ix_d (v_ 1) (v_ 5) (fun _ _ => rfl)) da_nil)))) (da_cons (de_bin od_add (v_ 0) de_int) da_nil))) (v_ 4) (pm _ _)))  (fun _ _ _ _ _ => (v_ 5)))) da_nil))))))
abbrev N_law_web : List Str := ["n", "rows", "flats", "indexes", "flat", "keyed", "rank"]
theorem c_law_web : FnScope N_law_web ["n", "rows"] (defScope s_law_web) := ⟨rfl, rfl, rfl, by decide +kernel, rfl, by decide +kernel, by decide +kernel⟩
theorem g_law_web (fc : Fc K mg) : Ok prog w K mg 5 "_law_web" false false Q.F_law_web := by
  intro base
  obtain ⟨fd, F⟩ := fc.d__law_web
  refine fnG_of (ps := ["n", "rows"]) (N := N_law_web) (O := []) (O' := []) F c_law_web (F.bindsN fun _ _ _ _ _ _ us hl => match us, hl with | [_, _], _ => rfl) .nil (fun _ _ => .nil) (by decide) (by decide) (by decide) fun cdv A outer s H E A0 q hio hr hg => ?_
  obtain rfl : q = none := by cases q with
    | none => rfl
    | some _ => cases hio
  have hu := Room.u64 hr
  have hv := Room.u65 hr
  exact (dss_forgetO 2 (.inl (by decide)) (dss_cons (ds_own trivial (df_lst da_nil) rfl (.inl (by decide)) c_law_web.nd rfl (Or.inl rfl)) (dss_cons (ds_for (vs := [3]) trivial cx_pw rfl (di_seq (de_call (g_law_subsets fc _) (hr.mono (by decide)) hg cx_tk (by rfl) fc.g__law_subsets (da_cons (de_b bt_len b_len (by rfl) fc.f_len (da_cons (v_ 1) da_nil)) da_nil))) (dg_name rfl rfl c_law_web.nd rfl (Or.inl rfl)) (dss_one (ds_if trivial (dt_tru (de_call (g_law_is_met fc _) (hr.mono (by decide)) hg cx_tk (by rfl) fc.g__law_is_met (da_cons (v_ 0) (da_cons (v_ 1) (da_cons (v_ 3) da_nil))))) (dss_cons (ds_asg (vs := [4]) trivial (de_call (g_law_closed fc _) (hr.mono (by decide)) hg cx_tk (by rfl) fc.g__law_closed (da_cons (v_ 0) (da_cons (v_ 1) (da_cons (v_ 3) da_nil)))) (dg_name rfl rfl c_law_web.nd rfl (Or.inl rfl))) (dss_one (ds_if trivial (dt_cmpB (od_notin hv) no_gNotIn (db_e (v_ 4)) (db_o (by rfl) (pv 2)) (pm _ _)) (dss_one (ds_expr trivial (de_om om_append PySem.F.slot_list_append PySem.F.type_list_append (by rfl) (pv 2) (da_cons (v_ 4) da_nil)))) dss_nil))) dss_nil))) (dss_freeze 2 (.inl (by decide)) (dss_cons (ds_asg (vs := [5]) trivial (de_b bt_sorted (b_sortedD hu) (by rfl) fc.f_sorted (da_cons (DF.toE (df_lc (by rfl) c_law_web.nd (by rfl) (di_seq (v_ 2)) (blkOk_by (own := [("flat", 4)]) (by kernel_rfl)) (fun _ _ _ _ _ => (dg_name rfl rfl c_law_web.nd rfl (Or.inl rfl))) (fun _ _ _ _ _ => pts_nil) tYes_go (fun _ _ _ _ _ => (de_tup (da_cons (de_call (g_law_rank fc _) (hr.mono (by decide)) hg (takes0 (by rfl)) (by rfl) fc.g__law_rank (da_cons (de_call (g_law_chosen fc _) (hr.mono (by decide)) hg (takes0 (by rfl)) (by rfl) fc.g__law_chosen (da_cons (v_ 1) (da_cons (v_ 4) da_nil))) (da_cons (v_ 0) da_nil))) (da_cons (v_ 4) da_nil)))))) da_nil)) (dg_name rfl rfl c_law_web.nd rfl (Or.inl rfl))) (dss_one (ds_ret trivial (DF.toE (df_lc (by rfl) c_law_web.nd (by rfl) (di_seq (v_ 5)) (blkOk_by (own := [("rank", 6), ("flat", 4)]) (by kernel_rfl)) (fun _ _ _ _ _ => (dg_tup rfl (dgs_cons (dg_name rfl rfl c_law_web.nd rfl (Or.inl rfl)) (dgs_cons (dg_name rfl rfl c_law_web.nd rfl (Or.inl rfl)) dgs_nil)))) (fun _ _ _ _ _ => pts_nil) tYes_go (fun _ _ _ _ _ => (v_ 4)))))))))))
abbrev NSpan_init : List Str := ["self", "n", "q"]
theorem cSpan_init : FnScope NSpan_init ["self", "n", "q"] (defScope sSpan_init) := ⟨rfl, rfl, rfl, by decide +kernel, rfl, by decide +kernel, by decide +kernel⟩
theorem gSpan_init (fc : Fc K mg) : ∀ base : Heap, FnG prog w K mg base 1 (He.ma K (He.ga K "Span") "__init__") true false Q.FSpan_init := by
  intro base
  obtain ⟨fd, F⟩ := fc.d_Span_init
  refine fnG_of (ps := ["self", "n", "q"]) (N := NSpan_init) (O := [0]) (O' := [0]) F cSpan_init (F.bindsN fun _ _ _ _ _ _ us hl => match us, hl with | [_, _, _], _ => rfl) .nil (fun _ _ => .nil) (by decide) (by decide) (by decide) fun cdv A outer s H E A0 q hio hr hg => ?_
  have hu := Room.u64 hr
  have hv := Room.u65 hr
  exact (dss_cons (ds_fld trivial (by rfl) (fldC_cons fc.cl_Span fc.na_Span_n fldC_nil) (pv 0) (v_ 1)) (dss_cons (ds_fld trivial (by rfl) (fldC_cons fc.cl_Span fc.na_Span_q fldC_nil) (pv 0) (v_ 2)) (dss_one (ds_fld trivial (by rfl) (fldC_cons fc.cl_Span fc.na_Span_rows fldC_nil) (pv 0) (DF.toE (df_lst da_nil))))))
abbrev Ndivisor : List Str := ["a", "b"]
theorem cdivisor : FnScope Ndivisor ["a", "b"] (defScope sdivisor) := ⟨rfl, rfl, rfl, by decide +kernel, rfl, by decide +kernel, by decide +kernel⟩
theorem gdivisor (fc : Fc K mg) : Ok prog w K mg 1 "divisor" false false Q.Fdivisor := by
  intro base
  obtain ⟨fd, F⟩ := fc.d_divisor
  refine fnG_of (ps := ["a", "b"]) (N := Ndivisor) (O := []) (O' := []) F cdivisor (F.bindsN fun _ _ _ _ _ _ us hl => match us, hl with | [_, _], _ => rfl) .nil (fun _ _ => .nil) (by decide) (by decide) (by decide) fun cdv A outer s H E A0 q hio hr hg => ?_
  obtain rfl : q = none := by cases q with
    | none => rfl
    | some _ => cases hio
  have hu := Room.u64 hr
  have hv := Room.u65 hr
  exact (dss_cons (ds_par (i := 0) (j := 1) trivial rfl cdivisor.nd rfl rfl (by decide) rfl rfl rfl rfl (da_cons (de_b bt_abs b_abs (by rfl) fc.f_abs (da_cons (v_ 0) da_nil)) (da_cons (de_b bt_abs b_abs (by rfl) fc.f_abs (da_cons (v_ 1) da_nil)) da_nil))) (dss_cons (ds_while _ trivial cx_pw (dt_cmp (od_ne hu) (v_ 1) de_int (pm _ _)) (dss_one (ds_par (i := 0) (j := 1) trivial rfl cdivisor.nd rfl rfl (by decide) rfl rfl rfl rfl (da_cons (v_ 1) (da_cons (de_bin od_mod (v_ 0) (v_ 1)) da_nil))))) (dss_one (ds_ret trivial (v_ 0)))))
abbrev Ncommon_of : List Str := ["row", "common", "entry"]
theorem ccommon_of : FnScope Ncommon_of ["row"] (defScope scommon_of) := ⟨rfl, rfl, rfl, by decide +kernel, rfl, by decide +kernel, by decide +kernel⟩
theorem gcommon_of (fc : Fc K mg) : Ok prog w K mg 2 "common_of" false false Q.Fcommon_of := by
  intro base
  obtain ⟨fd, F⟩ := fc.d_common_of
  refine fnG_of (ps := ["row"]) (N := Ncommon_of) (O := []) (O' := []) F ccommon_of (F.bindsN fun _ _ _ _ _ _ us hl => match us, hl with | [_], _ => rfl) .nil (fun _ _ => .nil) (by decide) (by decide) (by decide) fun cdv A outer s H E A0 q hio hr hg => ?_
  obtain rfl : q = none := by cases q with
    | none => rfl
    | some _ => cases hio
  have hu := Room.u64 hr
  have hv := Room.u65 hr
  exact (dss_cons (ds_asg (vs := [1]) trivial de_int (dg_name rfl rfl ccommon_of.nd rfl (Or.inl rfl))) (dss_cons (ds_for (vs := [2]) trivial cx_pw rfl (di_seq (v_ 0)) (dg_name rfl rfl ccommon_of.nd rfl (Or.inl rfl)) (dss_one (ds_asg (vs := [1]) trivial (de_call (gdivisor fc _) (hr.mono (by decide)) hg cx_tk (by rfl) fc.g_divisor (da_cons (v_ 1) (da_cons (v_ 2) da_nil))) (dg_name rfl rfl ccommon_of.nd rfl (Or.inl rfl))))) (dss_one (ds_ret trivial (v_ 1)))))
abbrev Nshortened : List Str := ["row", "q", "entry", "common"]
theorem cshortened : FnScope Nshortened ["row", "q"] (defScope sshortened) := ⟨rfl, rfl, rfl, by decide +kernel, rfl, by decide +kernel, by decide +kernel⟩
theorem gshortened (fc : Fc K mg) : Ok prog w K mg 3 "shortened" false false Q.Fshortened := by
  intro base
  obtain ⟨fd, F⟩ := fc.d_shortened
  refine fnG_of (ps := ["row", "q"]) (N := Nshortened) (O := []) (O' := []) F cshortened (F.bindsN fun _ _ _ _ _ _ us hl => match us, hl with | [_, _], _ => rfl) .nil (fun _ _ => .nil) (by decide) (by decide) (by decide) fun cdv A outer s H E A0 q hio hr hg => ?_
  obtain rfl : q = none := by cases q with
    | none => rfl
    | some _ => cases hio
  have hu := Room.u64 hr
  have hv := Room.u65 hr
  exact (dss_cons (ds_if trivial (dt_cmp od_gt (v_ 1) de_int (pm _ _)) (dss_one (ds_ret trivial (de_ty bt_tuple b_tuple (by rfl) fc.f_tuple (da_cons (DF.toE (df_lc (by rfl) cshortened.nd (by rfl) (di_seq (v_ 0)) (blkOk_by (own := [("entry", 2)]) (by kernel_rfl)) (fun _ _ _ _ _ => (dg_name rfl rfl cshortened.nd rfl (Or.inl rfl))) (fun _ _ _ _ _ => pts_nil) tYes_go (fun _ _ _ _ _ => (de_bin od_mod (v_ 2) (v_ 1))))) da_nil)))) dss_nil) (dss_cons (ds_asg (vs := [3]) trivial (de_call (gcommon_of fc _) (hr.mono (by decide)) hg cx_tk (by rfl) fc.g_common_of (da_cons (v_ 0) da_nil)) (dg_name rfl rfl cshortened.nd rfl (Or.inr rfl))) (dss_cons (ds_if trivial (dt_cmp od_lt (v_ 3) de_int (pm _ _)) (dss_one (ds_ret trivial (de_ty bt_tuple b_tuple (by rfl) fc.f_tuple (da_cons (v_ 0) da_nil)))) dss_nil) (dss_one (ds_ret trivial (de_ty bt_tuple b_tuple (by rfl) fc.f_tuple (da_cons (DF.toE (df_lc (by rfl) cshortened.nd (by rfl) (di_seq (v_ 0)) (blkOk_by (own := [("entry", 2)]) (by kernel_rfl)) (fun _ _ _ _ _ => (dg_name rfl rfl cshortened.nd rfl (Or.inl rfl))) (fun _ _ _ _ _ => pts_nil) tYes_go (fun _ _ _ _ _ => (de_bin od_div (v_ 2) (v_ 3))))) da_nil)))))))
abbrev NSpan_rest : List Str := ["self", "row", "place", "own", "j"]
theorem cSpan_rest : FnScope NSpan_rest ["self", "row"] (defScope sSpan_rest) := ⟨rfl, rfl, rfl, by decide +kernel, rfl, by decide +kernel, by decide +kernel⟩
theorem gSpan_rest (fc : Fc K mg) : ∀ base : Heap, FnG prog w K mg base 4 (He.ma K (He.ga K "Span") "rest") false false Q.FSpan_rest := by
  intro base
  obtain ⟨fd, F⟩ := fc.d_Span_rest
  refine fnG_of (ps := ["self", "row"]) (N := NSpan_rest) (O := []) (O' := []) F cSpan_rest (F.bindsN fun _ _ _ _ _ _ us hl => match us, hl with | [_, _], _ => rfl) .nil (fun _ _ => .nil) (by decide) (by decide) (by decide) fun cdv A outer s H E A0 q hio hr hg => ?_
  obtain rfl : q = none := by cases q with
    | none => rfl
    | some _ => cases hio
  have hu := Room.u64 hr
  have hv := Room.u65 hr
  exact (dss_cons (ds_asg (vs := [1]) trivial (de_call (gshortened fc _) (hr.mono (by decide)) hg cx_tk (by rfl) fc.g_shortened (da_cons (v_ 1) (da_cons (de_fld (fldC_cons fc.cl_Span fc.na_Span_q fldC_nil) (v_ 0)) da_nil))) (dg_name rfl rfl cSpan_rest.nd rfl (Or.inr rfl))) (dss_cons (ds_for (vs := [2, 3]) trivial cx_pw rfl (di_seq (de_fld (fldC_cons fc.cl_Span fc.na_Span_rows fldC_nil) (v_ 0))) (dg_tup rfl (dgs_cons (dg_name rfl rfl cSpan_rest.nd rfl (Or.inr rfl)) (dgs_cons (dg_name rfl rfl cSpan_rest.nd rfl (Or.inr rfl)) dgs_nil))) (dss_one (ds_if trivial (dt_cmp (od_ne hu) (de_ix ix_d (v_ 1) (v_ 2) (fun _ _ => rfl)) de_int (pm _ _)) (dss_cons (ds_asg (vs := [1]) trivial (de_ty bt_tuple b_tuple (by rfl) fc.f_tuple (da_cons (DF.toE (df_lc (by rfl) cSpan_rest.nd (by rfl) (di_range1 (by rfl) fc.f_range (da_cons (de_bin od_add (de_fld (fldC_cons fc.cl_Span fc.na_Span_n fldC_nil) (v_ 0)) de_int) da_nil)) (blkOk_by (own := [("j", 4)]) (by kernel_rfl)) (fun _ _ _ _ _ => (dg_name rfl rfl cSpan_rest.nd rfl (Or.inl rfl))) (fun _ _ _ _ _ => pts_nil) tYes_go (fun _ _ _ _ _ => (de_bin od_sub (de_bin od_mul (de_ix ix_d (v_ 3) (v_ 2) (fun _ _ => rfl)) (de_ix ix_d (v_ 1) (v_ 4) (fun _ _ => rfl))) (de_bin od_mul (de_ix ix_d (v_ 1) (v_ 2) (fun _ _ => rfl)) (de_ix ix_d (v_ 3) (v_ 4) (fun _ _ => rfl))))))) da_nil)) (dg_name rfl rfl cSpan_rest.nd rfl (Or.inr rfl))) (dss_one (ds_asg (vs := [1]) trivial (de_call (gshortened fc _) (hr.mono (by decide)) hg cx_tk (by rfl) fc.g_shortened (da_cons (v_ 1) (da_cons (de_fld (fldC_cons fc.cl_Span fc.na_Span_q fldC_nil) (v_ 0)) da_nil))) (dg_name rfl rfl cSpan_rest.nd rfl (Or.inr rfl))))) dss_nil))) (dss_one (ds_ret trivial (v_ 1)))))
abbrev NSpan_place_of : List Str := ["self", "rest", "place"]
theorem cSpan_place_of : FnScope NSpan_place_of ["self", "rest"] (defScope sSpan_place_of) := ⟨rfl, rfl, rfl, by decide +kernel, rfl, by decide +kernel, by decide +kernel⟩
theorem gSpan_place_of (fc : Fc K mg) : ∀ base : Heap, FnG prog w K mg base 1 (He.ma K (He.ga K "Span") "place_of") false false Q.FSpan_place_of := by
  intro base
  obtain ⟨fd, F⟩ := fc.d_Span_place_of
  refine fnG_of (ps := ["self", "rest"]) (N := NSpan_place_of) (O := []) (O' := []) F cSpan_place_of (F.bindsN fun _ _ _ _ _ _ us hl => match us, hl with | [_, _], _ => rfl) .nil (fun _ _ => .nil) (by decide) (by decide) (by decide) fun cdv A outer s H E A0 q hio hr hg => ?_
  obtain rfl : q = none := by cases q with
    | none => rfl
    | some _ => cases hio
  have hu := Room.u64 hr
  have hv := Room.u65 hr
  exact (dss_cons (ds_for (vs := [2]) trivial cx_pw rfl (di_range1 (by rfl) fc.f_range (da_cons (de_fld (fldC_cons fc.cl_Span fc.na_Span_n fldC_nil) (v_ 0)) da_nil)) (dg_name rfl rfl cSpan_place_of.nd rfl (Or.inl rfl)) (dss_one (ds_if trivial (dt_cmp (od_ne hu) (de_ix ix_d (v_ 1) (v_ 2) (fun _ _ => rfl)) de_int (pm _ _)) (dss_one (ds_ret trivial (v_ 2))) dss_nil))) (dss_one (ds_ret trivial de_non)))
abbrev NSpan_with_rest : List Str := ["self", "place", "rest", "span"]
theorem cSpan_with_rest : FnScope NSpan_with_rest ["self", "place", "rest"] (defScope sSpan_with_rest) := ⟨rfl, rfl, rfl, by decide +kernel, rfl, by decide +kernel, by decide +kernel⟩
theorem gSpan_with_rest (fc : Fc K mg) : ∀ base : Heap, FnG prog w K mg base 3 (He.ma K (He.ga K "Span") "with_rest") false false Q.FSpan_with_rest := by
  intro base
  obtain ⟨fd, F⟩ := fc.d_Span_with_rest
  refine fnG_of (ps := ["self", "place", "rest"]) (N := NSpan_with_rest) (O := []) (O' := []) F cSpan_with_rest (F.bindsN fun _ _ _ _ _ _ us hl => match us, hl with | [_, _, _], _ => rfl) .nil (fun _ _ => .nil) (by decide) (by decide) (by decide) fun cdv A outer s H E A0 q hio hr hg => ?_
  obtain rfl : q = none := by cases q with
    | none => rfl
    | some _ => cases hio
  have hu := Room.u64 hr
  have hv := Room.u65 hr
  exact (dss_forgetO 3 (.inl (by decide)) (dss_cons (ds_own trivial (df_make fc.mk_Span (gSpan_init fc _) (hr.mono (by decide)) hg cx_tk (by rfl) fc.g_Span (da_cons (de_fld (fldC_cons fc.cl_Span fc.na_Span_n fldC_nil) (v_ 0)) (da_cons (de_fld (fldC_cons fc.cl_Span fc.na_Span_q fldC_nil) (v_ 0)) da_nil))) rfl (.inl (by decide)) cSpan_with_rest.nd rfl (Or.inl rfl)) (dss_cons (ds_fld trivial (by rfl) (fldC_cons fc.cl_Span fc.na_Span_rows fldC_nil) (pv 3) (de_bin od_add (de_fld (fldC_cons fc.cl_Span fc.na_Span_rows fldC_nil) (v_ 0)) (DF.toE (df_lst (da_cons (de_tup (da_cons (v_ 1) (da_cons (v_ 2) da_nil))) da_nil))))) (dss_one (ds_retOv rfl (.inl (by decide)) (pv 3))))))
abbrev Nspan_of_rows : List Str := ["n", "q", "rows", "span", "row", "rest", "place"]
theorem cspan_of_rows : FnScope Nspan_of_rows ["n", "q", "rows"] (defScope sspan_of_rows) := ⟨rfl, rfl, rfl, by decide +kernel, rfl, by decide +kernel, by decide +kernel⟩
theorem gspan_of_rows (fc : Fc K mg) : Ok prog w K mg 5 "span_of_rows" false false Q.Fspan_of_rows := by
  intro base
  obtain ⟨fd, F⟩ := fc.d_span_of_rows
  refine fnG_of (ps := ["n", "q", "rows"]) (N := Nspan_of_rows) (O := []) (O' := []) F cspan_of_rows (F.bindsN fun _ _ _ _ _ _ us hl => match us, hl with | [_, _, _], _ => rfl) .nil (fun _ _ => .nil) (by decide) (by decide) (by decide) fun cdv A outer s H E A0 q hio hr hg => ?_
  obtain rfl : q = none := by cases q with
    | none => rfl
    | some _ => cases hio
  have hu := Room.u64 hr
  have hv := Room.u65 hr
  exact (dss_cons (ds_asg (vs := [3]) trivial (DF.toE (df_make fc.mk_Span (gSpan_init fc _) (hr.mono (by decide)) hg cx_tk (by rfl) fc.g_Span (da_cons (v_ 0) (da_cons (v_ 1) da_nil)))) (dg_name rfl rfl cspan_of_rows.nd rfl (Or.inl rfl))) (dss_cons (ds_for (vs := [4]) trivial cx_pw rfl (di_seq (v_ 2)) (dg_name rfl rfl cspan_of_rows.nd rfl (Or.inl rfl)) (dss_cons (ds_asg (vs := [5]) trivial (de_meth (methT_cons (k := 4) fc.cl_Span fc.me_Span_rest (FnG.mono (gSpan_rest fc _) (by decide)) methT_nil) (hr.mono (by decide)) hg cx_tk (v_ 3) (da_cons (v_ 4) da_nil)) (dg_name rfl rfl cspan_of_rows.nd rfl (Or.inl rfl))) (dss_cons (ds_asg (vs := [6]) trivial (de_meth (methT_cons (k := 1) fc.cl_Span fc.me_Span_place_of (FnG.mono (gSpan_place_of fc _) (by decide)) methT_nil) (hr.mono (by decide)) hg cx_tk (v_ 3) (da_cons (v_ 5) da_nil)) (dg_name rfl rfl cspan_of_rows.nd rfl (Or.inl rfl))) (dss_one (ds_if trivial (dt_cmp od_isnot (v_ 6) de_non (pm _ _)) (dss_one (ds_asg (vs := [3]) trivial (de_meth (methT_cons (k := 3) fc.cl_Span fc.me_Span_with_rest (FnG.mono (gSpan_with_rest fc _) (by decide)) methT_nil) (hr.mono (by decide)) hg cx_tk (v_ 3) (da_cons (v_ 6) (da_cons (v_ 5) da_nil))) (dg_name rfl rfl cspan_of_rows.nd rfl (Or.inl rfl)))) (dss_one (ds_if trivial (dt_cmp (od_ne hu) (de_ix ix_d (v_ 5) (v_ 0) (fun _ _ => rfl)) de_int (pm _ _)) (dss_one (ds_ret trivial de_non)) dss_nil))))))) (dss_one (ds_ret trivial (v_ 3)))))
abbrev NPlanes_planes : List Str := ["self"]
theorem cPlanes_planes : FnScope NPlanes_planes ["self"] (defScope sPlanes_planes) := ⟨rfl, rfl, rfl, by decide +kernel, rfl, by decide +kernel, by decide +kernel⟩
theorem gPlanes_planes (fc : Fc K mg) : ∀ base : Heap, FnG prog w K mg base 1 (He.ma K (He.ga K "Planes") "planes") false false Q.FPlanes_planes := by
  intro base
  obtain ⟨fd, F⟩ := fc.d_Planes_planes
  refine fnG_of (ps := ["self"]) (N := NPlanes_planes) (O := []) (O' := []) F cPlanes_planes (F.bindsN fun _ _ _ _ _ _ us hl => match us, hl with | [_], _ => rfl) .nil (fun _ _ => .nil) (by decide) (by decide) (by decide) fun cdv A outer s H E A0 q hio hr hg => ?_
  obtain rfl : q = none := by cases q with
    | none => rfl
    | some _ => cases hio
  have hu := Room.u64 hr
  have hv := Room.u65 hr
  exact (dss_one (ds_ret trivial (de_ty bt_list (b_list (by rfl)) (by rfl) fc.f_list (da_cons (de_fld (fldC_cons fc.cl_Planes fc.na_Planes_kept fldC_nil) (v_ 0)) da_nil))))
abbrev Nchosen : List Str := ["planes", "indexes", "rows", "index"]
theorem cchosen : FnScope Nchosen ["planes", "indexes"] (defScope schosen) := ⟨rfl, rfl, rfl, by decide +kernel, rfl, by decide +kernel, by decide +kernel⟩
theorem gchosen (fc : Fc K mg) : Ok prog w K mg 2 "chosen" false false Q.Fchosen := by
  intro base
  obtain ⟨fd, F⟩ := fc.d_chosen
  refine fnG_of (ps := ["planes", "indexes"]) (N := Nchosen) (O := []) (O' := []) F cchosen (F.bindsN fun _ _ _ _ _ _ us hl => match us, hl with | [_, _], _ => rfl) .nil (fun _ _ => .nil) (by decide) (by decide) (by decide) fun cdv A outer s H E A0 q hio hr hg => ?_
  obtain rfl : q = none := by cases q with
    | none => rfl
    | some _ => cases hio
  have hu := Room.u64 hr
  have hv := Room.u65 hr
  exact (dss_cons (ds_asg (vs := [2]) trivial (de_meth0 (methT_cons (k := 1) fc.cl_Planes fc.me_Planes_planes (FnG.mono (gPlanes_planes fc _) (by decide)) methT_nil) (hr.mono (by decide)) hg cx_tk (v_ 0)) (dg_name rfl rfl cchosen.nd rfl (Or.inr rfl))) (dss_one (ds_ret trivial (DF.toE (df_lc (by rfl) cchosen.nd (by rfl) (di_seq (v_ 1)) (blkOk_by (own := [("index", 3)]) (by kernel_rfl)) (fun _ _ _ _ _ => (dg_name rfl rfl cchosen.nd rfl (Or.inl rfl))) (fun _ _ _ _ _ => pts_nil) tYes_go (fun _ _ _ _ _ => (de_ix ix_d (v_ 2) (v_ 3) (fun _ _ => rfl))))))))
abbrev Nspan_at : List Str := ["planes", "indexes"]
theorem cspan_at : FnScope Nspan_at ["planes", "indexes"] (defScope sspan_at) := ⟨rfl, rfl, rfl, by decide +kernel, rfl, by decide +kernel, by decide +kernel⟩
theorem gspan_at (fc : Fc K mg) : Ok prog w K mg 6 "span_at" false false Q.Fspan_at := by
  intro base
  obtain ⟨fd, F⟩ := fc.d_span_at
  refine fnG_of (ps := ["planes", "indexes"]) (N := Nspan_at) (O := []) (O' := []) F cspan_at (F.bindsN fun _ _ _ _ _ _ us hl => match us, hl with | [_, _], _ => rfl) .nil (fun _ _ => .nil) (by decide) (by decide) (by decide) fun cdv A outer s H E A0 q hio hr hg => ?_
  obtain rfl : q = none := by cases q with
    | none => rfl
    | some _ => cases hio
  have hu := Room.u64 hr
  have hv := Room.u65 hr
  exact (dss_one (ds_ret trivial (de_call (gspan_of_rows fc _) (hr.mono (by decide)) hg cx_tk (by rfl) fc.g_span_of_rows (da_cons (de_fld (fldC_cons fc.cl_Planes fc.na_Planes_n fldC_nil) (v_ 0)) (da_cons de_int (da_cons (de_call (gchosen fc _) (hr.mono (by decide)) hg cx_tk (by rfl) fc.g_chosen (da_cons (v_ 0) (da_cons (v_ 1) da_nil))) da_nil))))))
abbrev Nascends : List Str := ["indexes", "at"]
theorem cascends : FnScope Nascends ["indexes"] (defScope sascends) := ⟨rfl, rfl, rfl, by decide +kernel, rfl, by decide +kernel, by decide +kernel⟩
theorem gascends (fc : Fc K mg) : Ok prog w K mg 1 "ascends" false false Q.Fascends := by
  intro base
  obtain ⟨fd, F⟩ := fc.d_ascends
  refine fnG_of (ps := ["indexes"]) (N := Nascends) (O := []) (O' := []) F cascends (F.bindsN fun _ _ _ _ _ _ us hl => match us, hl with | [_], _ => rfl) .nil (fun _ _ => .nil) (by decide) (by decide) (by decide) fun cdv A outer s H E A0 q hio hr hg => ?_
  obtain rfl : q = none := by cases q with
    | none => rfl
    | some _ => cases hio
  have hu := Room.u64 hr
  have hv := Room.u65 hr
  exact (dss_one (ds_ret trivial (de_b bt_all (b_all (by rfl)) (by rfl) fc.f_all (da_cons (DF.toE (df_lc (by rfl) cascends.nd (by rfl) (di_range2 (by rfl) fc.f_range (da_cons de_int (da_cons (de_b bt_len b_len (by rfl) fc.f_len (da_cons (v_ 0) da_nil)) da_nil))) (blkOk_by (own := [("at", 1)]) (by kernel_rfl)) (fun _ _ _ _ _ => (dg_name rfl rfl cascends.nd rfl (Or.inl rfl))) (fun _ _ _ _ _ => pts_nil) tYes_go (fun _ _ _ _ _ => (de_cmp od_lt (de_ix ix_d (v_ 0) (de_bin od_sub (v_ 1) de_int) (fun _ _ => rfl)) (de_ix ix_d (v_ 0) (v_ 1) (fun _ _ => rfl)) (pm _ _))))) da_nil))))
abbrev Nclosed : List Str := ["span", "rows", "index", "row"]
theorem cclosed : FnScope Nclosed ["span", "rows"] (defScope sclosed) := ⟨rfl, rfl, rfl, by decide +kernel, rfl, by decide +kernel, by decide +kernel⟩
theorem gclosed (fc : Fc K mg) : Ok prog w K mg 5 "closed" false false Q.Fclosed_v2 := by
  intro base
  obtain ⟨fd, F⟩ := fc.d_closed
  refine fnG_of (ps := ["span", "rows"]) (N := Nclosed) (O := []) (O' := []) F cclosed (F.bindsN fun _ _ _ _ _ _ us hl => match us, hl with | [_, _], _ => rfl) .nil (fun _ _ => .nil) (by decide) (by decide) (by decide) fun cdv A outer s H E A0 q hio hr hg => ?_
  obtain rfl : q = none := by cases q with
    | none => rfl
    | some _ => cases hio
  have hu := Room.u64 hr
  have hv := Room.u65 hr
  exact (dss_one (ds_ret trivial (de_ty bt_tuple b_tuple (by rfl) fc.f_tuple (da_cons (DF.toE (df_lc1 (by rfl) cclosed.nd (by rfl) (di_enumS (by rfl) fc.f_enumerate (da_cons (v_ 1) da_nil)) (blkOk_by (own := [("index", 2), ("row", 3)]) (by kernel_rfl)) (fun _ _ _ _ _ => (dg_tup rfl (dgs_cons (dg_name rfl rfl cclosed.nd rfl (Or.inl rfl)) (dgs_cons (dg_name rfl rfl cclosed.nd rfl (Or.inl rfl)) dgs_nil)))) (fun _ _ _ _ _ => (dt_not (dt_tru (de_b bt_any (b_anyIT (by rfl)) (by rfl) fc.f_any (da_cons (de_meth (methT_cons (k := 4) fc.cl_Span fc.me_Span_rest (FnG.mono (gSpan_rest fc _) (by decide)) methT_nil) (hr.mono (by decide)) hg (takes0 (by rfl)) (v_ 0) (da_cons (v_ 3) da_nil)) da_nil)))))  (fun _ _ _ _ _ => (v_ 2)))) da_nil))))
abbrev NPlanes_len : List Str := ["self"]
theorem cPlanes_len : FnScope NPlanes_len ["self"] (defScope sPlanes_len) := ⟨rfl, rfl, rfl, by decide +kernel, rfl, by decide +kernel, by decide +kernel⟩
theorem gPlanes_len (fc : Fc K mg) : ∀ base : Heap, FnG prog w K mg base 1 (He.ma K (He.ga K "Planes") "__len__") false false Q.FPlanes_len := by
  intro base
  obtain ⟨fd, F⟩ := fc.d_Planes_len
  refine fnG_of (ps := ["self"]) (N := NPlanes_len) (O := []) (O' := []) F cPlanes_len (F.bindsN fun _ _ _ _ _ _ us hl => match us, hl with | [_], _ => rfl) .nil (fun _ _ => .nil) (by decide) (by decide) (by decide) fun cdv A outer s H E A0 q hio hr hg => ?_
  obtain rfl : q = none := by cases q with
    | none => rfl
    | some _ => cases hio
  have hu := Room.u64 hr
  have hv := Room.u65 hr
  exact (dss_one (ds_ret trivial (de_b bt_len b_len (by rfl) fc.f_len (da_cons (de_fld (fldC_cons fc.cl_Planes fc.na_Planes_kept fldC_nil) (v_ 0)) da_nil))))
abbrev Nis_flat : List Str := ["planes", "flat", "index", "span"]
theorem cis_flat : FnScope Nis_flat ["planes", "flat"] (defScope sis_flat) := ⟨rfl, rfl, rfl, by decide +kernel, rfl, by decide +kernel, by decide +kernel⟩
theorem gis_flat (fc : Fc K mg) : Ok prog w K mg 7 "is_flat" false false Q.Fis_flat_v2 := by
  intro base
  obtain ⟨fd, F⟩ := fc.d_is_flat
  refine fnG_of (ps := ["planes", "flat"]) (N := Nis_flat) (O := []) (O' := []) F cis_flat (F.bindsN fun _ _ _ _ _ _ us hl => match us, hl with | [_, _], _ => rfl) .nil (fun _ _ => .nil) (by decide) (by decide) (by decide) fun cdv A outer s H E A0 q hio hr hg => ?_
  obtain rfl : q = none := by cases q with
    | none => rfl
    | some _ => cases hio
  have hu := Room.u64 hr
  have hv := Room.u65 hr
  exact (dss_cons (ds_if trivial (DW.t (dw_or (dt_not (dt_tru (de_call (gascends fc _) (hr.mono (by decide)) hg cx_tk (by rfl) fc.g_ascends (da_cons (v_ 1) da_nil)))) (dw_or1 (dt_not (dt_tru (de_b bt_all (b_all (by rfl)) (by rfl) fc.f_all (da_cons (DF.toE (df_lc (by rfl) cis_flat.nd (by rfl) (di_seq (v_ 1)) (blkOk_by (own := [("index", 2)]) (by kernel_rfl)) (fun _ _ _ _ _ => (dg_name rfl rfl cis_flat.nd rfl (Or.inl rfl))) (fun _ _ _ _ _ => pts_nil) tYes_go (fun _ _ _ _ _ => (de_chain od_le od_lt de_int (v_ 2) (de_lenX (methT_cons (k := 1) fc.cl_Planes fc.me_Planes_len (FnG.mono (gPlanes_len fc _) (by decide)) methT_nil) (hr.mono (by decide)) hg (by rfl) fc.f_len (v_ 0)))))) da_nil))))))) (dss_one (ds_ret trivial de_bl)) dss_nil) (dss_cons (ds_asg (vs := [3]) trivial (de_call (gspan_at fc _) (hr.mono (by decide)) hg cx_tk (by rfl) fc.g_span_at (da_cons (v_ 0) (da_cons (v_ 1) da_nil))) (dg_name rfl rfl cis_flat.nd rfl (Or.inl rfl))) (dss_one (ds_ret trivial (de_and (de_cmp od_isnot (v_ 3) de_non (pm _ _)) (de_one (de_cmp (od_eq hu) (de_call (gclosed fc _) (hr.mono (by decide)) hg cx_tk (by rfl) fc.g_closed (da_cons (v_ 3) (da_cons (de_meth0 (methT_cons (k := 1) fc.cl_Planes fc.me_Planes_planes (FnG.mono (gPlanes_planes fc _) (by decide)) methT_nil) (hr.mono (by decide)) hg cx_tk (v_ 0)) da_nil))) (v_ 1) (pm _ _))))))))
abbrev Ncheck_flat : List Str := ["planes", "flat"]
theorem ccheck_flat : FnScope Ncheck_flat ["planes", "flat"] (defScope scheck_flat) := ⟨rfl, rfl, rfl, by decide +kernel, rfl, by decide +kernel, by decide +kernel⟩
theorem gcheck_flat (fc : Fc K mg) : Ok prog w K mg 8 "check_flat" false false Q.Fcheck_flat_v2 := by
  intro base
  obtain ⟨fd, F⟩ := fc.d_check_flat
  refine fnG_of (ps := ["planes", "flat"]) (N := Ncheck_flat) (O := []) (O' := []) F ccheck_flat (F.bindsN fun _ _ _ _ _ _ us hl => match us, hl with | [_, _], _ => rfl) .nil (fun _ _ => .nil) (by decide) (by decide) (by decide) fun cdv A outer s H E A0 q hio hr hg => ?_
  obtain rfl : q = none := by cases q with
    | none => rfl
    | some _ => cases hio
  have hu := Room.u64 hr
  have hv := Room.u65 hr
  exact (dss_one (ds_if trivial (dt_not (dt_tru (de_call (gis_flat fc _) (hr.mono (by decide)) hg cx_tk (by rfl) fc.g_is_flat (da_cons (v_ 0) (da_cons (v_ 1) da_nil))))) (dss_one (ds_raiseC fc.e_NotFlat trivial cx_tk)) dss_nil))
abbrev Nmeet_of : List Str := ["planes", "one", "other", "span"]
theorem cmeet_of : FnScope Nmeet_of ["planes", "one", "other"] (defScope smeet_of) := ⟨rfl, rfl, rfl, by decide +kernel, rfl, by decide +kernel, by decide +kernel⟩
theorem gmeet_of (fc : Fc K mg) : Ok prog w K mg 9 "meet_of" false false Q.Fmeet_of_v2 := by
  intro base
  obtain ⟨fd, F⟩ := fc.d_meet_of
  refine fnG_of (ps := ["planes", "one", "other"]) (N := Nmeet_of) (O := []) (O' := []) F cmeet_of (F.bindsN fun _ _ _ _ _ _ us hl => match us, hl with | [_, _, _], _ => rfl) .nil (fun _ _ => .nil) (by decide) (by decide) (by decide) fun cdv A outer s H E A0 q hio hr hg => ?_
  obtain rfl : q = none := by cases q with
    | none => rfl
    | some _ => cases hio
  have hu := Room.u64 hr
  have hv := Room.u65 hr
  exact (dss_cons (ds_expr trivial (de_call (gcheck_flat fc _) (hr.mono (by decide)) hg cx_tk (by rfl) fc.g_check_flat (da_cons (v_ 0) (da_cons (v_ 1) da_nil)))) (dss_cons (ds_expr trivial (de_call (gcheck_flat fc _) (hr.mono (by decide)) hg cx_tk (by rfl) fc.g_check_flat (da_cons (v_ 0) (da_cons (v_ 2) da_nil)))) (dss_cons (ds_asg (vs := [3]) trivial (de_call (gspan_at fc _) (hr.mono (by decide)) hg cx_tk (by rfl) fc.g_span_at (da_cons (v_ 0) (da_cons (de_bin od_add (v_ 1) (v_ 2)) da_nil))) (dg_name rfl rfl cmeet_of.nd rfl (Or.inl rfl))) (dss_cons (ds_if trivial (dt_cmp od_is (v_ 3) de_non (pm _ _)) (dss_one (ds_ret trivial de_non)) dss_nil) (dss_one (ds_ret trivial (de_call (gclosed fc _) (hr.mono (by decide)) hg cx_tk (by rfl) fc.g_closed (da_cons (v_ 3) (da_cons (de_meth0 (methT_cons (k := 1) fc.cl_Planes fc.me_Planes_planes (FnG.mono (gPlanes_planes fc _) (by decide)) methT_nil) (hr.mono (by decide)) hg cx_tk (v_ 0)) da_nil)))))))))
abbrev Ncheck_places : List Str := ["planes", "indexes", "index"]
theorem ccheck_places : FnScope Ncheck_places ["planes", "indexes"] (defScope scheck_places) := ⟨rfl, rfl, rfl, by decide +kernel, rfl, by decide +kernel, by decide +kernel⟩
theorem gcheck_places (fc : Fc K mg) : Ok prog w K mg 3 "check_places" false false Q.Fcheck_places := by
  intro base
  obtain ⟨fd, F⟩ := fc.d_check_places
  refine fnG_of (ps := ["planes", "indexes"]) (N := Ncheck_places) (O := []) (O' := []) F ccheck_places (F.bindsN fun _ _ _ _ _ _ us hl => match us, hl with | [_, _], _ => rfl) .nil (fun _ _ => .nil) (by decide) (by decide) (by decide) fun cdv A outer s H E A0 q hio hr hg => ?_
  obtain rfl : q = none := by cases q with
    | none => rfl
    | some _ => cases hio
  have hu := Room.u64 hr
  have hv := Room.u65 hr
  exact (dss_one (ds_for (vs := [2]) trivial cx_pw rfl (di_seq (v_ 1)) (dg_name rfl rfl ccheck_places.nd rfl (Or.inl rfl)) (dss_one (ds_if trivial (dt_not (dt_chain od_le od_lt de_int (v_ 2) (de_lenX (methT_cons (k := 1) fc.cl_Planes fc.me_Planes_len (FnG.mono (gPlanes_len fc _) (by decide)) methT_nil) (hr.mono (by decide)) hg (by rfl) fc.f_len (v_ 0)))) (dss_one (ds_raiseC fc.e_BadNumber trivial cx_tk)) dss_nil))))
abbrev Nflat_of : List Str := ["planes", "indexes", "span"]
theorem cflat_of : FnScope Nflat_of ["planes", "indexes"] (defScope sflat_of) := ⟨rfl, rfl, rfl, by decide +kernel, rfl, by decide +kernel, by decide +kernel⟩
theorem gflat_of (fc : Fc K mg) : Ok prog w K mg 7 "flat_of" false false Q.Fflat_of_v2 := by
  intro base
  obtain ⟨fd, F⟩ := fc.d_flat_of
  refine fnG_of (ps := ["planes", "indexes"]) (N := Nflat_of) (O := []) (O' := []) F cflat_of (F.bindsN fun _ _ _ _ _ _ us hl => match us, hl with | [_, _], _ => rfl) .nil (fun _ _ => .nil) (by decide) (by decide) (by decide) fun cdv A outer s H E A0 q hio hr hg => ?_
  obtain rfl : q = none := by cases q with
    | none => rfl
    | some _ => cases hio
  have hu := Room.u64 hr
  have hv := Room.u65 hr
  exact (dss_cons (ds_expr trivial (de_call (gcheck_places fc _) (hr.mono (by decide)) hg cx_tk (by rfl) fc.g_check_places (da_cons (v_ 0) (da_cons (v_ 1) da_nil)))) (dss_cons (ds_asg (vs := [2]) trivial (de_call (gspan_at fc _) (hr.mono (by decide)) hg cx_tk (by rfl) fc.g_span_at (da_cons (v_ 0) (da_cons (v_ 1) da_nil))) (dg_name rfl rfl cflat_of.nd rfl (Or.inl rfl))) (dss_cons (ds_if trivial (dt_cmp od_is (v_ 2) de_non (pm _ _)) (dss_one (ds_raiseC fc.e_NoAnswer trivial cx_tk)) dss_nil) (dss_one (ds_ret trivial (de_call (gclosed fc _) (hr.mono (by decide)) hg cx_tk (by rfl) fc.g_closed (da_cons (v_ 2) (da_cons (de_meth0 (methT_cons (k := 1) fc.cl_Planes fc.me_Planes_planes (FnG.mono (gPlanes_planes fc _) (by decide)) methT_nil) (hr.mono (by decide)) hg cx_tk (v_ 0)) da_nil))))))))
abbrev Nmeets : List Str := ["planes", "indexes"]
theorem cmeets : FnScope Nmeets ["planes", "indexes"] (defScope smeets) := ⟨rfl, rfl, rfl, by decide +kernel, rfl, by decide +kernel, by decide +kernel⟩
theorem gmeets (fc : Fc K mg) : Ok prog w K mg 7 "meets" false false Q.Fmeets := by
  intro base
  obtain ⟨fd, F⟩ := fc.d_meets
  refine fnG_of (ps := ["planes", "indexes"]) (N := Nmeets) (O := []) (O' := []) F cmeets (F.bindsN fun _ _ _ _ _ _ us hl => match us, hl with | [_, _], _ => rfl) .nil (fun _ _ => .nil) (by decide) (by decide) (by decide) fun cdv A outer s H E A0 q hio hr hg => ?_
  obtain rfl : q = none := by cases q with
    | none => rfl
    | some _ => cases hio
  have hu := Room.u64 hr
  have hv := Room.u65 hr
  exact (dss_cons (ds_expr trivial (de_call (gcheck_places fc _) (hr.mono (by decide)) hg cx_tk (by rfl) fc.g_check_places (da_cons (v_ 0) (da_cons (v_ 1) da_nil)))) (dss_one (ds_ret trivial (de_cmp od_isnot (de_call (gspan_at fc _) (hr.mono (by decide)) hg cx_tk (by rfl) fc.g_span_at (da_cons (v_ 0) (da_cons (v_ 1) da_nil))) de_non (pm _ _)))))
abbrev Nrank_of : List Str := ["planes", "indexes", "rows", "row"]
theorem crank_of : FnScope Nrank_of ["planes", "indexes"] (defScope srank_of) := ⟨rfl, rfl, rfl, by decide +kernel, rfl, by decide +kernel, by decide +kernel⟩
theorem grank_of (fc : Fc K mg) : Ok prog w K mg 6 "rank_of" false false Q.Frank_of := by
  intro base
  obtain ⟨fd, F⟩ := fc.d_rank_of
  refine fnG_of (ps := ["planes", "indexes"]) (N := Nrank_of) (O := []) (O' := []) F crank_of (F.bindsN fun _ _ _ _ _ _ us hl => match us, hl with | [_, _], _ => rfl) .nil (fun _ _ => .nil) (by decide) (by decide) (by decide) fun cdv A outer s H E A0 q hio hr hg => ?_
  obtain rfl : q = none := by cases q with
    | none => rfl
    | some _ => cases hio
  have hu := Room.u64 hr
  have hv := Room.u65 hr
  exact (dss_cons (ds_expr trivial (de_call (gcheck_places fc _) (hr.mono (by decide)) hg cx_tk (by rfl) fc.g_check_places (da_cons (v_ 0) (da_cons (v_ 1) da_nil)))) (dss_cons (ds_setLc trivial rfl rfl crank_of.nd rfl rfl (sw_true rfl rfl rfl (by kernel_rfl)) (by rfl) (di_seq (de_call (gchosen fc _) (hr.mono (by decide)) hg cx_tk (by rfl) fc.g_chosen (da_cons (v_ 0) (da_cons (v_ 1) da_nil)))) (blkOk_by (own := [("row", 3)]) (by kernel_rfl)) (fun _ _ _ _ _ => (dg_name rfl rfl crank_of.nd rfl (Or.inl rfl))) (fun _ _ _ _ _ => pts_nil) tYes_go (fun _ _ _ _ _ => (de_bin od_add (de_sl (db_e (v_ 3)) dp_no (dp_e (de_un ud_neg de_int))) (de_tup (da_cons de_int da_nil))))) (dss_one (ds_ret trivial (de_b bt_len b_len (by rfl) fc.f_len (da_cons (de_fld (fldC_cons fc.cl_Span fc.na_Span_rows fldC_nil) (de_call (gspan_of_rows fc _) (hr.mono (by decide)) hg cx_tk (by rfl) fc.g_span_of_rows (da_cons (de_fld (fldC_cons fc.cl_Planes fc.na_Planes_n fldC_nil) (v_ 0)) (da_cons de_int (da_cons (v_ 2) da_nil))))) da_nil))))))
abbrev Nflat_dimension : List Str := ["planes", "flat"]
theorem cflat_dimension : FnScope Nflat_dimension ["planes", "flat"] (defScope sflat_dimension) := ⟨rfl, rfl, rfl, by decide +kernel, rfl, by decide +kernel, by decide +kernel⟩
theorem gflat_dimension (fc : Fc K mg) : Ok prog w K mg 9 "flat_dimension" false false Q.Fflat_dimension_v2 := by
  intro base
  obtain ⟨fd, F⟩ := fc.d_flat_dimension
  refine fnG_of (ps := ["planes", "flat"]) (N := Nflat_dimension) (O := []) (O' := []) F cflat_dimension (F.bindsN fun _ _ _ _ _ _ us hl => match us, hl with | [_, _], _ => rfl) .nil (fun _ _ => .nil) (by decide) (by decide) (by decide) fun cdv A outer s H E A0 q hio hr hg => ?_
  obtain rfl : q = none := by cases q with
    | none => rfl
    | some _ => cases hio
  have hu := Room.u64 hr
  have hv := Room.u65 hr
  exact (dss_cons (ds_expr trivial (de_call (gcheck_flat fc _) (hr.mono (by decide)) hg cx_tk (by rfl) fc.g_check_flat (da_cons (v_ 0) (da_cons (v_ 1) da_nil)))) (dss_one (ds_ret trivial (de_bin od_sub (de_fld (fldC_cons fc.cl_Planes fc.na_Planes_n fldC_nil) (v_ 0)) (de_call (grank_of fc _) (hr.mono (by decide)) hg cx_tk (by rfl) fc.g_rank_of (da_cons (v_ 0) (da_cons (v_ 1) da_nil)))))))
abbrev Nspan_of : List Str := ["planes", "one", "other", "index"]
theorem cspan_of : FnScope Nspan_of ["planes", "one", "other"] (defScope sspan_of) := ⟨rfl, rfl, rfl, by decide +kernel, rfl, by decide +kernel, by decide +kernel⟩
theorem gspan_of (fc : Fc K mg) : Ok prog w K mg 9 "span_of" false false Q.Fspan_of_v2 := by
  intro base
  obtain ⟨fd, F⟩ := fc.d_span_of
  refine fnG_of (ps := ["planes", "one", "other"]) (N := Nspan_of) (O := []) (O' := []) F cspan_of (F.bindsN fun _ _ _ _ _ _ us hl => match us, hl with | [_, _, _], _ => rfl) .nil (fun _ _ => .nil) (by decide) (by decide) (by decide) fun cdv A outer s H E A0 q hio hr hg => ?_
  obtain rfl : q = none := by cases q with
    | none => rfl
    | some _ => cases hio
  have hu := Room.u64 hr
  have hv := Room.u65 hr
  exact (dss_cons (ds_expr trivial (de_call (gcheck_flat fc _) (hr.mono (by decide)) hg cx_tk (by rfl) fc.g_check_flat (da_cons (v_ 0) (da_cons (v_ 1) da_nil)))) (dss_cons (ds_expr trivial (de_call (gcheck_flat fc _) (hr.mono (by decide)) hg cx_tk (by rfl) fc.g_check_flat (da_cons (v_ 0) (da_cons (v_ 2) da_nil)))) (dss_one (ds_ret trivial (de_ty bt_tuple b_tuple (by rfl) fc.f_tuple (da_cons (DF.toE (df_lc1 (by rfl) cspan_of.nd (by rfl) (di_seq (v_ 1)) (blkOk_by (own := [("index", 3)]) (by kernel_rfl)) (fun _ _ _ _ _ => (dg_name rfl rfl cspan_of.nd rfl (Or.inl rfl))) (fun _ _ _ _ _ => (dt_cmp (od_in hv) (v_ 3) (v_ 2) (pm _ _)))  (fun _ _ _ _ _ => (v_ 3)))) da_nil))))))
abbrev N_law_error : List Str := ["error", "kinds"]
theorem c_law_error : FnScope N_law_error ["error"] (defScope s_law_error) := ⟨rfl, rfl, rfl, by decide +kernel, rfl, by decide +kernel, by decide +kernel⟩
theorem gX_law_error (fc : Fc K mg) : ∀ base : Heap, FnX prog w K mg base 1 (He.ga K "_law_error") (fun c => mtPlaneError c = some true) FX_law_error := by
  intro base
  obtain ⟨fd, F⟩ := fc.d__law_error
  refine fnX_of (ps := ["error"]) (N := N_law_error) (O' := []) F c_law_error rfl (F.bindsN fun _ _ _ _ _ _ us hl => match us, hl with | [_], _ => rfl) fun cdv A outer s H E A0 p k hot hz hf hk hr hg => ?_
  have hu := roomH_64 hr
  have hv := roomH_65 hr
  have np1 : NPx (⟨A0, H, none, some (0, p.1, k)⟩ : Gd) 1 := npx (by decide)
  exact (dss_forgetO 1 (.inl (by decide)) (dss_cons (ds_own trivial (df_lst da_nil) rfl (.inl (by decide)) c_law_error.nd rfl (Or.inl rfl)) (dss_cons (ds_if trivial (dt_tru (de_isE (i := 0) (ad := p.1) (k := k) rfl (hotE_is (hotE_h hot hz hf) (mtPlaneError_ex fc hk)) (isPlaneError_NotFlat fc hk) rfl fc.f_isinstance rfl (Or.inl rfl) rfl fc.g_NotFlat)) (dss_one (ds_expr trivial (de_om om_append PySem.F.slot_list_append PySem.F.type_list_append (by rfl) (pv 1) (da_cons de_str da_nil)))) dss_nil) (dss_cons (ds_if trivial (dt_tru (de_isE (i := 0) (ad := p.1) (k := k) rfl (hotE_is (hotE_h hot hz hf) (mtPlaneError_ex fc hk)) (isPlaneError_NoAnswer fc hk) rfl fc.f_isinstance rfl (Or.inl rfl) rfl fc.g_NoAnswer)) (dss_one (ds_expr trivial (de_om om_append PySem.F.slot_list_append PySem.F.type_list_append (by rfl) (pv 1) (da_cons de_str da_nil)))) dss_nil) (dss_cons (ds_if trivial (dt_tru (de_isE (i := 0) (ad := p.1) (k := k) rfl (hotE_is (hotE_h hot hz hf) (mtPlaneError_ex fc hk)) (isPlaneError_BadNumber fc hk) rfl fc.f_isinstance rfl (Or.inl rfl) rfl fc.g_BadNumber)) (dss_one (ds_expr trivial (de_om om_append PySem.F.slot_list_append PySem.F.type_list_append (by rfl) (pv 1) (da_cons de_str da_nil)))) dss_nil) (dss_cons (ds_if trivial (DW.t (dw_and (dt_cmp (od_eq hu) (de_bO (by rfl) bt_len b_len (by rfl) fc.f_len (pv 1)) de_int (pm _ _)) (dw_and1 (dt_tru (de_isE (i := 0) (ad := p.1) (k := k) rfl (hotE_is (hotE_h hot hz hf) (mtPlaneError_ex fc hk)) (isPlaneError_PlaneError fc hk) rfl fc.f_isinstance rfl (Or.inl rfl) rfl fc.g_PlaneError))))) (dss_one (ds_ret trivial (de_bin od_add de_str (de_ixB ix_d gIx_no (db_o (by rfl) (pv 1)) (db_e de_int) (fun _ _ => rfl))))) dss_nil) (dss_one (ds_ret trivial de_str))))))))
abbrev N_law_told : List Str := ["way", "book", "one", "other", "error"]
theorem c_law_told : FnScope N_law_told ["way", "book", "one", "other"] (defScope s_law_told) := ⟨rfl, rfl, rfl, by decide +kernel, rfl, by decide +kernel, by decide +kernel⟩
theorem g_law_told (fc : Fc K mg) : Ok prog w K mg 10 "_law_told" false false F_law_told := by
  intro base
  obtain ⟨fd, F⟩ := fc.d__law_told
  refine fnG_of (ps := ["way", "book", "one", "other"]) (N := N_law_told) (O := []) (O' := []) F c_law_told (F.bindsN fun _ _ _ _ _ _ us hl => match us, hl with | [_, _, _, _], _ => rfl) .nil (fun _ _ => .nil) (by decide) (by decide) (by decide) fun cdv A outer s H E A0 q hio hr hg => ?_
  obtain rfl : q = none := by cases q with
    | none => rfl
    | some _ => cases hio
  have hu := Room.u64 hr
  have hv := Room.u65 hr
  exact (dss_one (ds_tryAs trivial rfl rfl c_law_told.nd rfl rfl ⟨rfl, by decide, .inl fc.g_PlaneError⟩ cx_tk (mtPlaneError_ok fc) rfl (.inl (by decide)) rfl (fun W pn xe tk pw => (dss_cons (ds_if rfl (dt_cmp (od_eq hu) (v_ 0) de_int (pm _ _)) (dss_one (ds_ret rfl (de_call (gflat_of fc _) (hr.mono (by decide)) hg tk (by rfl) fc.g_flat_of (da_cons (v_ 1) (da_cons (v_ 2) da_nil))))) dss_nil) (dss_cons (ds_if rfl (dt_cmp (od_eq hu) (v_ 0) de_int (pm _ _)) (dss_one (ds_ret rfl (de_call (gmeets fc _) (hr.mono (by decide)) hg tk (by rfl) fc.g_meets (da_cons (v_ 1) (da_cons (v_ 2) da_nil))))) dss_nil) (dss_cons (ds_if rfl (dt_cmp (od_eq hu) (v_ 0) de_int (pm _ _)) (dss_one (ds_ret rfl (de_call (grank_of fc _) (hr.mono (by decide)) hg tk (by rfl) fc.g_rank_of (da_cons (v_ 1) (da_cons (v_ 2) da_nil))))) dss_nil) (dss_cons (ds_if rfl (dt_cmp (od_eq hu) (v_ 0) de_int (pm _ _)) (dss_one (ds_ret rfl (de_call (gflat_dimension fc _) (hr.mono (by decide)) hg tk (by rfl) fc.g_flat_dimension (da_cons (v_ 1) (da_cons (v_ 2) da_nil))))) dss_nil) (dss_cons (ds_if rfl (dt_cmp (od_eq hu) (v_ 0) de_int (pm _ _)) (dss_one (ds_ret rfl (de_call (gspan_of fc _) (hr.mono (by decide)) hg tk (by rfl) fc.g_span_of (da_cons (v_ 1) (da_cons (v_ 2) (da_cons (v_ 3) da_nil)))))) dss_nil) (dss_one (ds_ret rfl (de_call (gmeet_of fc _) (hr.mono (by decide)) hg tk (by rfl) fc.g_meet_of (da_cons (v_ 1) (da_cons (v_ 2) (da_cons (v_ 3) da_nil)))))))))))) (fun ad oe k pn hz hf hk => (dss_one (ds_ret rfl (de_callX (i := 4) (gX_law_error fc _) rfl hk (roomS (hr.mono (by decide))) hg (hotE_s hz hf) (by rfl) fc.g__law_error rfl (Or.inl rfl))))) rfl))
abbrev N_law_sets : List Str := ["draws", "n", "rows", "book", "j", "indexes", "k", "met", "due", "passed", "way", "some"]
theorem c_law_sets : FnScope N_law_sets ["draws", "n", "rows", "book"] (defScope s_law_sets) := ⟨rfl, rfl, rfl, by decide +kernel, rfl, by decide +kernel, by decide +kernel⟩
theorem g_law_sets (fc : Fc K mg) : Ok prog w K mg 11 "_law_sets" true false F_law_sets := by
  intro base
  obtain ⟨fd, F⟩ := fc.d__law_sets
  refine fnG_of (ps := ["draws", "n", "rows", "book"]) (N := N_law_sets) (O := [0]) (O' := []) F c_law_sets (F.bindsN fun _ _ _ _ _ _ us hl => match us, hl with | [_, _, _, _], _ => rfl) .nil (fun _ _ => .nil) (by decide) (by decide) (by decide) fun cdv A outer s H E A0 q hio hr hg => ?_
  have hu := Room.u64 hr
  have hv := Room.u65 hr
  exact (dss_cons (ds_for (vs := [4]) trivial cx_pw rfl (di_range1 (by rfl) fc.f_range (da_cons de_int da_nil)) (dg_name rfl rfl c_law_sets.nd rfl (Or.inl rfl)) (dss_forgetO 5 (.inl (by decide)) (dss_cons (ds_own trivial (df_lst da_nil) rfl (.inl (by decide)) c_law_sets.nd rfl (Or.inl rfl)) (dss_cons (ds_for (vs := [6]) trivial cx_pw rfl (di_range1 (by rfl) fc.f_range (da_cons (de_bin od_mod (de_ty bt_int b_int (by rfl) fc.f_int (da_cons (de_callio (g_law_next fc _) (hr.mono (by decide)) hg cx_tk (by rfl) fc.g__law_next (by rfl) (pv 0) da_nil) da_nil)) de_int) da_nil)) (dg_name rfl rfl c_law_sets.nd rfl (Or.inl rfl)) (dss_one (ds_if trivial (dt_tru (v_ 2)) (dss_one (ds_expr trivial (de_om om_append PySem.F.slot_list_append PySem.F.type_list_append (by rfl) (pv 5) (da_cons (de_bin od_mod (de_ty bt_int b_int (by rfl) fc.f_int (da_cons (de_callio (g_law_next fc _) (hr.mono (by decide)) hg cx_tk (by rfl) fc.g__law_next (by rfl) (pv 0) da_nil) da_nil)) (de_b bt_len b_len (by rfl) fc.f_len (da_cons (v_ 2) da_nil))) da_nil)))) dss_nil))) (dss_freeze 5 (.inl (by decide)) (dss_cons (ds_asg (vs := [7]) trivial (de_call (g_law_is_met fc _) (hr.mono (by decide)) hg cx_tk (by rfl) fc.g__law_is_met (da_cons (v_ 1) (da_cons (v_ 2) (da_cons (v_ 5) da_nil)))) (dg_name rfl rfl c_law_sets.nd rfl (Or.inl rfl))) (dss_cons (ds_asg (vs := [8]) trivial (DF.toE (df_lst (da_cons (de_if (dt_tru (v_ 7)) (de_call (g_law_closed fc _) (hr.mono (by decide)) hg cx_tk (by rfl) fc.g__law_closed (da_cons (v_ 1) (da_cons (v_ 2) (da_cons (v_ 5) da_nil)))) de_str) (da_cons (v_ 7) (da_cons (de_call (g_law_rank fc _) (hr.mono (by decide)) hg cx_tk (by rfl) fc.g__law_rank (da_cons (de_call (g_law_chosen fc _) (hr.mono (by decide)) hg cx_tk (by rfl) fc.g__law_chosen (da_cons (v_ 2) (da_cons (v_ 5) da_nil))) (da_cons (v_ 1) da_nil))) da_nil))))) (dg_name rfl rfl c_law_sets.nd rfl (Or.inl rfl))) (dss_cons (ds_asg (vs := [9]) trivial (de_ty bt_list (b_list (by rfl)) (by rfl) fc.f_list (da_cons (v_ 5) da_nil)) (dg_name rfl rfl c_law_sets.nd rfl (Or.inl rfl))) (dss_cons (ds_for (vs := [10]) trivial cx_pw rfl (di_range1 (by rfl) fc.f_range (da_cons de_int da_nil)) (dg_name rfl rfl c_law_sets.nd rfl (Or.inl rfl)) (dss_one (ds_if trivial (DW.t (dw_or (dt_cmp (od_ne hu) (de_b bt_repr (b_repr hg hu) (by rfl) fc.f_repr (da_cons (de_call (g_law_told fc _) (hr.mono (by decide)) hg cx_tk (by rfl) fc.g__law_told (da_cons (v_ 10) (da_cons (v_ 3) (da_cons (v_ 9) (da_cons (de_tup da_nil) da_nil))))) da_nil)) (de_b bt_repr (b_repr hg hu) (by rfl) fc.f_repr (da_cons (de_ix ix_d (v_ 8) (v_ 10) (fun _ _ => rfl)) da_nil)) (pm _ _)) (dw_or1 (dt_cmp (od_ne hu) (v_ 9) (v_ 5) (pm _ _))))) (dss_one (ds_ret trivial de_bl)) dss_nil))) (dss_cons (ds_asg (vs := [11]) trivial (de_ty bt_tuple b_tuple (by rfl) fc.f_tuple (da_cons (v_ 5) da_nil)) (dg_name rfl rfl c_law_sets.nd rfl (Or.inl rfl))) (dss_one (ds_if trivial (dt_cmp (od_ne hu) (de_b bt_repr (b_repr hg hu) (by rfl) fc.f_repr (da_cons (de_call (gis_flat fc _) (hr.mono (by decide)) hg cx_tk (by rfl) fc.g_is_flat (da_cons (v_ 3) (da_cons (v_ 11) da_nil))) da_nil)) (de_b bt_repr (b_repr hg hu) (by rfl) fc.f_repr (da_cons (de_and (v_ 7) (de_one (de_cmp (od_eq hu) (de_ix ix_d (v_ 8) de_int (fun _ _ => rfl)) (v_ 11) (pm _ _)))) da_nil)) (pm _ _)) (dss_one (ds_ret trivial de_bl)) dss_nil)))))))))))) (dss_one (ds_ret trivial de_bl)))
abbrev N_law_pairs : List Str := ["draws", "n", "rows", "book", "flats", "j", "one", "other", "both", "index", "due"]
theorem c_law_pairs : FnScope N_law_pairs ["draws", "n", "rows", "book", "flats"] (defScope s_law_pairs) := ⟨rfl, rfl, rfl, by decide +kernel, rfl, by decide +kernel, by decide +kernel⟩
theorem g_law_pairs (fc : Fc K mg) : Ok prog w K mg 11 "_law_pairs" true false F_law_pairs := by
  intro base
  obtain ⟨fd, F⟩ := fc.d__law_pairs
  refine fnG_of (ps := ["draws", "n", "rows", "book", "flats"]) (N := N_law_pairs) (O := [0]) (O' := []) F c_law_pairs (F.bindsN fun _ _ _ _ _ _ us hl => match us, hl with | [_, _, _, _, _], _ => rfl) .nil (fun _ _ => .nil) (by decide) (by decide) (by decide) fun cdv A outer s H E A0 q hio hr hg => ?_
  have hu := Room.u64 hr
  have hv := Room.u65 hr
  exact (dss_cons (ds_for (vs := [5]) trivial cx_pw rfl (di_range1 (by rfl) fc.f_range (da_cons de_int da_nil)) (dg_name rfl rfl c_law_pairs.nd rfl (Or.inl rfl)) (dss_cons (ds_asg (vs := [6]) trivial (de_ix ix_d (v_ 4) (de_bin od_mod (de_ty bt_int b_int (by rfl) fc.f_int (da_cons (de_callio (g_law_next fc _) (hr.mono (by decide)) hg cx_tk (by rfl) fc.g__law_next (by rfl) (pv 0) da_nil) da_nil)) (de_b bt_len b_len (by rfl) fc.f_len (da_cons (v_ 4) da_nil))) (fun _ _ => rfl)) (dg_name rfl rfl c_law_pairs.nd rfl (Or.inr rfl))) (dss_cons (ds_asg (vs := [7]) trivial (de_ix ix_d (v_ 4) (de_bin od_mod (de_ty bt_int b_int (by rfl) fc.f_int (da_cons (de_callio (g_law_next fc _) (hr.mono (by decide)) hg cx_tk (by rfl) fc.g__law_next (by rfl) (pv 0) da_nil) da_nil)) (de_b bt_len b_len (by rfl) fc.f_len (da_cons (v_ 4) da_nil))) (fun _ _ => rfl)) (dg_name rfl rfl c_law_pairs.nd rfl (Or.inr rfl))) (dss_cons (ds_asg (vs := [8]) trivial (de_bin od_add (v_ 6) (de_ty bt_tuple b_tuple (by rfl) fc.f_tuple (da_cons (DF.toE (df_lc1 (by rfl) c_law_pairs.nd (by rfl) (di_seq (v_ 7)) (blkOk_by (own := [("index", 9)]) (by kernel_rfl)) (fun _ _ _ _ _ => (dg_name rfl rfl c_law_pairs.nd rfl (Or.inl rfl))) (fun _ _ _ _ _ => (dt_cmp (od_notin hv) (v_ 9) (v_ 6) (pm _ _)))  (fun _ _ _ _ _ => (v_ 9)))) da_nil))) (dg_name rfl rfl c_law_pairs.nd rfl (Or.inl rfl))) (dss_cons (ds_asg (vs := [10]) trivial de_non (dg_name rfl rfl c_law_pairs.nd rfl (Or.inl rfl))) (dss_cons (ds_if trivial (dt_tru (de_call (g_law_is_met fc _) (hr.mono (by decide)) hg cx_tk (by rfl) fc.g__law_is_met (da_cons (v_ 1) (da_cons (v_ 2) (da_cons (v_ 8) da_nil))))) (dss_one (ds_asg (vs := [10]) trivial (de_call (g_law_closed fc _) (hr.mono (by decide)) hg cx_tk (by rfl) fc.g__law_closed (da_cons (v_ 1) (da_cons (v_ 2) (da_cons (v_ 8) da_nil)))) (dg_name rfl rfl c_law_pairs.nd rfl (Or.inl rfl)))) dss_nil) (dss_cons (ds_if trivial (dt_cmp (od_ne hu) (de_b bt_repr (b_repr hg hu) (by rfl) fc.f_repr (da_cons (de_call (g_law_told fc _) (hr.mono (by decide)) hg cx_tk (by rfl) fc.g__law_told (da_cons de_int (da_cons (v_ 3) (da_cons (v_ 6) (da_cons (v_ 7) da_nil))))) da_nil)) (de_b bt_repr (b_repr hg hu) (by rfl) fc.f_repr (da_cons (de_ty bt_tuple b_tuple (by rfl) fc.f_tuple (da_cons (DF.toE (df_lc1 (by rfl) c_law_pairs.nd (by rfl) (di_seq (v_ 6)) (blkOk_by (own := [("index", 9)]) (by kernel_rfl)) (fun _ _ _ _ _ => (dg_name rfl rfl c_law_pairs.nd rfl (Or.inl rfl))) (fun _ _ _ _ _ => (dt_cmp (od_in hv) (v_ 9) (v_ 7) (pm _ _)))  (fun _ _ _ _ _ => (v_ 9)))) da_nil)) da_nil)) (pm _ _)) (dss_one (ds_ret trivial de_bl)) dss_nil) (dss_cons (ds_if trivial (dt_cmp (od_ne hu) (de_b bt_repr (b_repr hg hu) (by rfl) fc.f_repr (da_cons (de_call (g_law_told fc _) (hr.mono (by decide)) hg cx_tk (by rfl) fc.g__law_told (da_cons de_int (da_cons (v_ 3) (da_cons (v_ 6) (da_cons (v_ 7) da_nil))))) da_nil)) (de_b bt_repr (b_repr hg hu) (by rfl) fc.f_repr (da_cons (v_ 10) da_nil)) (pm _ _)) (dss_one (ds_ret trivial de_bl)) dss_nil) (dss_one (ds_if trivial (dt_cmp (od_ne hu) (de_b bt_repr (b_repr hg hu) (by rfl) fc.f_repr (da_cons (de_call (g_law_told fc _) (hr.mono (by decide)) hg cx_tk (by rfl) fc.g__law_told (da_cons de_int (da_cons (v_ 3) (da_cons (v_ 6) (da_cons (v_ 7) da_nil))))) da_nil)) (de_b bt_repr (b_repr hg hu) (by rfl) fc.f_repr (da_cons (de_bin od_sub (v_ 1) (de_call (g_law_rank fc _) (hr.mono (by decide)) hg cx_tk (by rfl) fc.g__law_rank (da_cons (de_call (g_law_chosen fc _) (hr.mono (by decide)) hg cx_tk (by rfl) fc.g__law_chosen (da_cons (v_ 2) (da_cons (v_ 6) da_nil))) (da_cons (v_ 1) da_nil)))) da_nil)) (pm _ _)) (dss_one (ds_ret trivial de_bl)) dss_nil)))))))))) (dss_one (ds_ret trivial de_bl)))
abbrev Nlevels : List Str := ["n", "q", "rows", "start", "level", "found", "further", "flat", "span", "index", "row", "rest", "place", "wider"]
theorem clevels : FnScope Nlevels ["n", "q", "rows"] (defScope slevels) := ⟨rfl, rfl, rfl, by decide +kernel, rfl, by decide +kernel, by decide +kernel⟩
theorem glevels (fc : Fc K mg) : Ok prog w K mg 6 "levels" false false Q.Flevels_v2 := by
  intro base
  obtain ⟨fd, F⟩ := fc.d_levels
  refine fnG_of (ps := ["n", "q", "rows"]) (N := Nlevels) (O := []) (O' := []) F clevels (F.bindsN fun _ _ _ _ _ _ us hl => match us, hl with | [_, _, _], _ => rfl) .nil (fun _ _ => .nil) (by decide) (by decide) (by decide) fun cdv A outer s H E A0 q hio hr hg => ?_
  obtain rfl : q = none := by cases q with
    | none => rfl
    | some _ => cases hio
  have hu := Room.u64 hr
  have hv := Room.u65 hr
  exact (dss_cons (ds_asg (vs := [3]) trivial (DF.toE (df_make fc.mk_Span (gSpan_init fc _) (hr.mono (by decide)) hg cx_tk (by rfl) fc.g_Span (da_cons (v_ 0) (da_cons (v_ 1) da_nil)))) (dg_name rfl rfl clevels.nd rfl (Or.inl rfl))) (dss_cons (ds_asg (vs := [4]) trivial (DF.toE (df_dct1 (u0 hu) (de_call (gclosed fc _) (hr.mono (by decide)) hg cx_tk (by rfl) fc.g_closed (da_cons (v_ 3) (da_cons (v_ 2) da_nil))) (v_ 3))) (dg_name rfl rfl clevels.nd rfl (Or.inl rfl))) (dss_forgetO 5 (.inl (by decide)) (dss_cons (ds_own trivial (df_lst da_nil) rfl (.inl (by decide)) clevels.nd rfl (Or.inl rfl)) (dss_cons (ds_while _ trivial cx_pw (dt_truD (v_ 4)) (dss_cons (ds_expr trivial (de_om om_append PySem.F.slot_list_append PySem.F.type_list_append (by rfl) (pv 5) (da_cons (de_b bt_sorted (b_sortedDk (by rfl) hu) (by rfl) fc.f_sorted (da_cons (v_ 4) da_nil)) da_nil))) (dss_forgetO 6 (.inl (by decide)) (dss_cons (ds_own trivial df_dct0 rfl (.inl (by decide)) clevels.nd rfl (Or.inl rfl)) (dss_cons (ds_forD (vs := [7, 8]) cx_pw rfl (by rfl) (pv 4) (fun _ => (dg_tup rfl (dgs_cons (dg_name rfl rfl clevels.nd rfl (Or.inl rfl)) (dgs_cons (dg_name rfl rfl clevels.nd rfl (Or.inl rfl)) dgs_nil)))) (fun _ => (dss_one (ds_for (vs := [9, 10]) trivial cx_pw rfl (di_enumS (by rfl) fc.f_enumerate (da_cons (v_ 2) da_nil)) (dg_tup rfl (dgs_cons (dg_name rfl rfl clevels.nd rfl (Or.inl rfl)) (dgs_cons (dg_name rfl rfl clevels.nd rfl (Or.inl rfl)) dgs_nil))) (dss_cons (ds_if trivial (dt_cmp (od_in hv) (v_ 9) (v_ 7) (pm _ _)) (dss_one ds_cnt) dss_nil) (dss_cons (ds_asg (vs := [11]) trivial (de_meth (methT_cons (k := 4) fc.cl_Span fc.me_Span_rest (FnG.mono (gSpan_rest fc _) (by decide)) methT_nil) (hr.mono (by decide)) hg cx_tk (v_ 8) (da_cons (v_ 10) da_nil)) (dg_name rfl rfl clevels.nd rfl (Or.inl rfl))) (dss_cons (ds_asg (vs := [12]) trivial (de_meth (methT_cons (k := 1) fc.cl_Span fc.me_Span_place_of (FnG.mono (gSpan_place_of fc _) (by decide)) methT_nil) (hr.mono (by decide)) hg cx_tk (v_ 8) (da_cons (v_ 11) da_nil)) (dg_name rfl rfl clevels.nd rfl (Or.inl rfl))) (dss_cons (ds_if trivial (dt_cmp od_is (v_ 12) de_non (pm _ _)) (dss_one ds_cnt) dss_nil) (dss_cons (ds_asg (vs := [13]) trivial (de_meth (methT_cons (k := 3) fc.cl_Span fc.me_Span_with_rest (FnG.mono (gSpan_with_rest fc _) (by decide)) methT_nil) (hr.mono (by decide)) hg cx_tk (v_ 8) (da_cons (v_ 12) (da_cons (v_ 11) da_nil))) (dg_name rfl rfl clevels.nd rfl (Or.inl rfl))) (dss_one (ds_asg (vs := []) trivial (v_ 13) (dg_dput (u1 hu) (by rfl) (pv 6) (de_call (gclosed fc _) (hr.mono (by decide)) hg takesF (by rfl) fc.g_closed (da_cons (v_ 13) (da_cons (v_ 2) da_nil))))))))))))))) (dss_freeze 6 (.inl (by decide)) (dss_one (ds_asg (vs := [4]) trivial (v_ 6) (dg_name rfl rfl clevels.nd rfl (Or.inl rfl)))))))))) (dss_one (ds_retOv rfl (.inl (by decide)) (pv 5))))))))
abbrev Nflats_by_rank : List Str := ["planes"]
theorem cflats_by_rank : FnScope Nflats_by_rank ["planes"] (defScope sflats_by_rank) := ⟨rfl, rfl, rfl, by decide +kernel, rfl, by decide +kernel, by decide +kernel⟩
theorem gflats_by_rank (fc : Fc K mg) : Ok prog w K mg 7 "flats_by_rank" false false Q.Fflats_by_rank_v2 := by
  intro base
  obtain ⟨fd, F⟩ := fc.d_flats_by_rank
  refine fnG_of (ps := ["planes"]) (N := Nflats_by_rank) (O := []) (O' := []) F cflats_by_rank (F.bindsN fun _ _ _ _ _ _ us hl => match us, hl with | [_], _ => rfl) .nil (fun _ _ => .nil) (by decide) (by decide) (by decide) fun cdv A outer s H E A0 q hio hr hg => ?_
  obtain rfl : q = none := by cases q with
    | none => rfl
    | some _ => cases hio
  have hu := Room.u64 hr
  have hv := Room.u65 hr
  exact (dss_one (ds_ret trivial (de_call (glevels fc _) (hr.mono (by decide)) hg cx_tk (by rfl) fc.g_levels (da_cons (de_fld (fldC_cons fc.cl_Planes fc.na_Planes_n fldC_nil) (v_ 0)) (da_cons de_int (da_cons (de_meth0 (methT_cons (k := 1) fc.cl_Planes fc.me_Planes_planes (FnG.mono (gPlanes_planes fc _) (by decide)) methT_nil) (hr.mono (by decide)) hg cx_tk (v_ 0)) da_nil))))))
abbrev Nweb : List Str := ["planes", "found", "level"]
theorem cweb : FnScope Nweb ["planes"] (defScope sweb) := ⟨rfl, rfl, rfl, by decide +kernel, rfl, by decide +kernel, by decide +kernel⟩
theorem gweb (fc : Fc K mg) : Ok prog w K mg 8 "web" false false Q.Fweb_v2 := by
  intro base
  obtain ⟨fd, F⟩ := fc.d_web
  refine fnG_of (ps := ["planes"]) (N := Nweb) (O := []) (O' := []) F cweb (F.bindsN fun _ _ _ _ _ _ us hl => match us, hl with | [_], _ => rfl) .nil (fun _ _ => .nil) (by decide) (by decide) (by decide) fun cdv A outer s H E A0 q hio hr hg => ?_
  obtain rfl : q = none := by cases q with
    | none => rfl
    | some _ => cases hio
  have hu := Room.u64 hr
  have hv := Room.u65 hr
  exact (dss_forgetO 1 (.inl (by decide)) (dss_cons (ds_own trivial (df_lst da_nil) rfl (.inl (by decide)) cweb.nd rfl (Or.inl rfl)) (dss_cons (ds_for (vs := [2]) trivial cx_pw rfl (di_seq (de_call (gflats_by_rank fc _) (hr.mono (by decide)) hg cx_tk (by rfl) fc.g_flats_by_rank (da_cons (v_ 0) da_nil))) (dg_name rfl rfl cweb.nd rfl (Or.inl rfl)) (dss_one (ds_expr trivial (de_om om_extend PySem.F.slot_list_extend PySem.F.type_list_extend (by rfl) (pv 1) (da_cons (v_ 2) da_nil))))) (dss_one (ds_retOv rfl (.inl (by decide)) (pv 1))))))
abbrev Ncheck_letters : List Str := ["n"]
theorem ccheck_letters : FnScope Ncheck_letters ["n"] (defScope scheck_letters) := ⟨rfl, rfl, rfl, by decide +kernel, rfl, by decide +kernel, by decide +kernel⟩
theorem gcheck_letters (fc : Fc K mg) : Ok prog w K mg 1 "check_letters" false false Q.Fcheck_letters := by
  intro base
  obtain ⟨fd, F⟩ := fc.d_check_letters
  refine fnG_of (ps := ["n"]) (N := Ncheck_letters) (O := []) (O' := []) F ccheck_letters (F.bindsN fun _ _ _ _ _ _ us hl => match us, hl with | [_], _ => rfl) .nil (fun _ _ => .nil) (by decide) (by decide) (by decide) fun cdv A outer s H E A0 q hio hr hg => ?_
  obtain rfl : q = none := by cases q with
    | none => rfl
    | some _ => cases hio
  have hu := Room.u64 hr
  have hv := Room.u65 hr
  exact (dss_one (ds_if trivial (dt_not (dt_chain od_le od_le de_int (v_ 0) (gi_ fc.c_MOST_LETTERS))) (dss_one (ds_raiseC fc.e_BadNumber trivial cx_tk)) dss_nil))
abbrev Nis_plane : List Str := ["n", "plane", "a", "common"]
theorem cis_plane : FnScope Nis_plane ["n", "plane"] (defScope sis_plane) := ⟨rfl, rfl, rfl, by decide +kernel, rfl, by decide +kernel, by decide +kernel⟩
theorem gis_plane (fc : Fc K mg) : Ok prog w K mg 2 "is_plane" false false Q.Fis_plane := by
  intro base
  obtain ⟨fd, F⟩ := fc.d_is_plane
  refine fnG_of (ps := ["n", "plane"]) (N := Nis_plane) (O := []) (O' := []) F cis_plane (F.bindsN fun _ _ _ _ _ _ us hl => match us, hl with | [_, _], _ => rfl) .nil (fun _ _ => .nil) (by decide) (by decide) (by decide) fun cdv A outer s H E A0 q hio hr hg => ?_
  obtain rfl : q = none := by cases q with
    | none => rfl
    | some _ => cases hio
  have hu := Room.u64 hr
  have hv := Room.u65 hr
  exact (dss_cons (ds_expr trivial (de_call (gcheck_letters fc _) (hr.mono (by decide)) hg cx_tk (by rfl) fc.g_check_letters (da_cons (v_ 0) da_nil))) (dss_cons (ds_if trivial (DW.t (dw_or (dt_cmp (od_ne hu) (de_b bt_len b_len (by rfl) fc.f_len (da_cons (v_ 1) da_nil)) (de_bin od_add (v_ 0) de_int) (pm _ _)) (dw_or1 (dt_not (dt_tru (de_b bt_all (b_all (by rfl)) (by rfl) fc.f_all (da_cons (DF.toE (df_lc (by rfl) cis_plane.nd (by rfl) (di_seq (v_ 1)) (blkOk_by (own := [("a", 2)]) (by kernel_rfl)) (fun _ _ _ _ _ => (dg_name rfl rfl cis_plane.nd rfl (Or.inl rfl))) (fun _ _ _ _ _ => pts_nil) tYes_go (fun _ _ _ _ _ => (de_cmp od_le (de_b bt_abs b_abs (by rfl) fc.f_abs (da_cons (v_ 2) da_nil)) (gi_ fc.c_MOST_ENTRY) (pm _ _))))) da_nil))))))) (dss_one (ds_ret trivial de_bl)) dss_nil) (dss_cons (ds_asg (vs := [3]) trivial de_int (dg_name rfl rfl cis_plane.nd rfl (Or.inl rfl))) (dss_cons (ds_for (vs := [2]) trivial cx_pw rfl (di_seq (v_ 1)) (dg_name rfl rfl cis_plane.nd rfl (Or.inl rfl)) (dss_one (ds_asg (vs := [3]) trivial (de_call (gdivisor fc _) (hr.mono (by decide)) hg cx_tk (by rfl) fc.g_divisor (da_cons (v_ 3) (da_cons (v_ 2) da_nil))) (dg_name rfl rfl cis_plane.nd rfl (Or.inl rfl))))) (dss_one (ds_ret trivial (de_and (de_cmp (od_eq hu) (v_ 3) de_int (pm _ _)) (de_one (de_b bt_any (b_any (by rfl)) (by rfl) fc.f_any (da_cons (DF.toE (df_lc (by rfl) cis_plane.nd (by rfl) (di_seq (de_sl (db_e (v_ 1)) dp_no (dp_e (v_ 0)))) (blkOk_by (own := [("a", 2)]) (by kernel_rfl)) (fun _ _ _ _ _ => (dg_name rfl rfl cis_plane.nd rfl (Or.inl rfl))) (fun _ _ _ _ _ => pts_nil) tYes_go (fun _ _ _ _ _ => (de_cmp (od_ne hu) (v_ 2) de_int (pm _ _))))) da_nil))))))))))
abbrev Nother_way : List Str := ["plane", "a"]
theorem cother_way : FnScope Nother_way ["plane"] (defScope sother_way) := ⟨rfl, rfl, rfl, by decide +kernel, rfl, by decide +kernel, by decide +kernel⟩
theorem gother_way (fc : Fc K mg) : Ok prog w K mg 1 "other_way" false false Q.Fother_way := by
  intro base
  obtain ⟨fd, F⟩ := fc.d_other_way
  refine fnG_of (ps := ["plane"]) (N := Nother_way) (O := []) (O' := []) F cother_way (F.bindsN fun _ _ _ _ _ _ us hl => match us, hl with | [_], _ => rfl) .nil (fun _ _ => .nil) (by decide) (by decide) (by decide) fun cdv A outer s H E A0 q hio hr hg => ?_
  obtain rfl : q = none := by cases q with
    | none => rfl
    | some _ => cases hio
  have hu := Room.u64 hr
  have hv := Room.u65 hr
  exact (dss_one (ds_ret trivial (de_ty bt_tuple b_tuple (by rfl) fc.f_tuple (da_cons (DF.toE (df_lc (by rfl) cother_way.nd (by rfl) (di_seq (v_ 0)) (blkOk_by (own := [("a", 1)]) (by kernel_rfl)) (fun _ _ _ _ _ => (dg_name rfl rfl cother_way.nd rfl (Or.inl rfl))) (fun _ _ _ _ _ => pts_nil) tYes_go (fun _ _ _ _ _ => (de_un ud_neg (v_ 1))))) da_nil))))
abbrev Nare_planes : List Str := ["n", "rows", "row", "at", "other"]
theorem care_planes : FnScope Nare_planes ["n", "rows"] (defScope sare_planes) := ⟨rfl, rfl, rfl, by decide +kernel, rfl, by decide +kernel, by decide +kernel⟩
theorem gare_planes (fc : Fc K mg) : Ok prog w K mg 3 "are_planes" false false Q.Fare_planes := by
  intro base
  obtain ⟨fd, F⟩ := fc.d_are_planes
  refine fnG_of (ps := ["n", "rows"]) (N := Nare_planes) (O := []) (O' := []) F care_planes (F.bindsN fun _ _ _ _ _ _ us hl => match us, hl with | [_, _], _ => rfl) .nil (fun _ _ => .nil) (by decide) (by decide) (by decide) fun cdv A outer s H E A0 q hio hr hg => ?_
  obtain rfl : q = none := by cases q with
    | none => rfl
    | some _ => cases hio
  have hu := Room.u64 hr
  have hv := Room.u65 hr
  exact (dss_cons (ds_if trivial (DW.t (dw_or (dt_cmp od_gt (de_b bt_len b_len (by rfl) fc.f_len (da_cons (v_ 1) da_nil)) (gi_ fc.c_MOST_PLANES) (pm _ _)) (dw_or1 (dt_not (dt_tru (de_b bt_all (b_all (by rfl)) (by rfl) fc.f_all (da_cons (DF.toE (df_lc (by rfl) care_planes.nd (by rfl) (di_seq (v_ 1)) (blkOk_by (own := [("row", 2)]) (by kernel_rfl)) (fun _ _ _ _ _ => (dg_name rfl rfl care_planes.nd rfl (Or.inl rfl))) (fun _ _ _ _ _ => pts_nil) tYes_go (fun _ _ _ _ _ => (de_call (gis_plane fc _) (hr.mono (by decide)) hg (takes0 (by rfl)) (by rfl) fc.g_is_plane (da_cons (v_ 0) (da_cons (v_ 2) da_nil)))))) da_nil))))))) (dss_one (ds_ret trivial de_bl)) dss_nil) (dss_cons (ds_for (vs := [3, 2]) trivial cx_pw rfl (di_enumS (by rfl) fc.f_enumerate (da_cons (v_ 1) da_nil)) (dg_tup rfl (dgs_cons (dg_name rfl rfl care_planes.nd rfl (Or.inl rfl)) (dgs_cons (dg_name rfl rfl care_planes.nd rfl (Or.inr rfl)) dgs_nil))) (dss_one (ds_if trivial (dt_tru (de_b bt_any (b_any (by rfl)) (by rfl) fc.f_any (da_cons (DF.toE (df_lc (by rfl) care_planes.nd (by rfl) (di_seq (de_sl (db_e (v_ 1)) dp_no (dp_e (v_ 3)))) (blkOk_by (own := [("other", 4)]) (by kernel_rfl)) (fun _ _ _ _ _ => (dg_name rfl rfl care_planes.nd rfl (Or.inl rfl))) (fun _ _ _ _ _ => pts_nil) tYes_go (fun _ _ _ _ _ => (de_or (de_cmp (od_eq hu) (de_ty bt_tuple b_tuple (by rfl) fc.f_tuple (da_cons (v_ 2) da_nil)) (v_ 4) (pm _ _)) (de_one (de_cmp (od_eq hu) (de_call (gother_way fc _) (hr.mono (by decide)) hg (takes0 (by rfl)) (by rfl) fc.g_other_way (da_cons (v_ 2) da_nil)) (v_ 4) (pm _ _))))))) da_nil))) (dss_one (ds_ret trivial de_bl)) dss_nil))) (dss_one (ds_ret trivial de_bl))))
abbrev NPlanes_init : List Str := ["self", "n", "rows"]
theorem cPlanes_init : FnScope NPlanes_init ["self", "n", "rows"] (defScope sPlanes_init) := ⟨rfl, rfl, rfl, by decide +kernel, rfl, by decide +kernel, by decide +kernel⟩
theorem gPlanes_init (fc : Fc K mg) : ∀ base : Heap, FnG prog w K mg base 4 (He.ma K (He.ga K "Planes") "__init__") true false Q.FPlanes_init := by
  intro base
  obtain ⟨fd, F⟩ := fc.d_Planes_init
  refine fnG_of (ps := ["self", "n", "rows"]) (N := NPlanes_init) (O := [0]) (O' := [0]) F cPlanes_init (F.bindsN fun _ _ _ _ _ _ us hl => match us, hl with | [_, _, _], _ => rfl) .nil (fun _ _ => .nil) (by decide) (by decide) (by decide) fun cdv A outer s H E A0 q hio hr hg => ?_
  have hu := Room.u64 hr
  have hv := Room.u65 hr
  exact (dss_cons (ds_expr trivial (de_call (gcheck_letters fc _) (hr.mono (by decide)) hg cx_tk (by rfl) fc.g_check_letters (da_cons (v_ 1) da_nil))) (dss_cons (ds_if trivial (dt_not (dt_tru (de_call (gare_planes fc _) (hr.mono (by decide)) hg cx_tk (by rfl) fc.g_are_planes (da_cons (v_ 1) (da_cons (v_ 2) da_nil))))) (dss_one (ds_raiseC fc.e_NotPlanes trivial cx_tk)) dss_nil) (dss_cons (ds_fld trivial (by rfl) (fldC_cons fc.cl_Planes fc.na_Planes_n fldC_nil) (pv 0) (v_ 1)) (dss_one (ds_fld trivial (by rfl) (fldC_cons fc.cl_Planes fc.na_Planes_kept fldC_nil) (pv 0) (de_ty bt_tuple b_tuple (by rfl) fc.f_tuple (da_cons (v_ 2) da_nil)))))))
abbrev Nlaw : List Str := ["script", "draws", "n", "rows", "book", "flats", "flat", "strange", "index", "way"]
theorem claw : FnScope Nlaw ["script"] (defScope slaw) := ⟨rfl, rfl, rfl, by decide +kernel, rfl, by decide +kernel, by decide +kernel⟩
theorem glaw (fc : Fc K mg) : Ok prog w K mg 12 "law" false false Flaw := by
  intro base
  obtain ⟨fd, F⟩ := fc.d_law
  refine fnG_of (ps := ["script"]) (N := Nlaw) (O := []) (O' := []) F claw (F.bindsN fun _ _ _ _ _ _ us hl => match us, hl with | [_], _ => rfl) .nil (fun _ _ => .nil) (by decide) (by decide) (by decide) fun cdv A outer s H E A0 q hio hr hg => ?_
  obtain rfl : q = none := by cases q with
    | none => rfl
    | some _ => cases hio
  have hu := Room.u64 hr
  have hv := Room.u65 hr
  exact (dss_forgetO 1 (.inl (by decide)) (dss_cons (ds_own trivial (df_call (g_law_draws fc _) (hr.mono (by decide)) hg cx_tk (by rfl) fc.g__law_draws (da_cons (v_ 0) da_nil)) rfl (.inl (by decide)) claw.nd rfl (Or.inl rfl)) (dss_cons (ds_asg (vs := [2]) trivial (de_bin od_add de_int (de_bin od_mod (de_ty bt_int b_int (by rfl) fc.f_int (da_cons (de_callio (g_law_next fc _) (hr.mono (by decide)) hg cx_tk (by rfl) fc.g__law_next (by rfl) (pv 1) da_nil) da_nil)) de_int)) (dg_name rfl rfl claw.nd rfl (Or.inl rfl))) (dss_cons (ds_asg (vs := [3]) trivial (de_callio (g_law_rows fc _) (hr.mono (by decide)) hg cx_tk (by rfl) fc.g__law_rows (by rfl) (pv 1) (da_cons (v_ 2) (da_cons de_int da_nil))) (dg_name rfl rfl claw.nd rfl (Or.inl rfl))) (dss_cons (ds_asg (vs := [4]) trivial (DF.toE (df_make fc.mk_Planes (gPlanes_init fc _) (hr.mono (by decide)) hg cx_tk (by rfl) fc.g_Planes (da_cons (v_ 2) (da_cons (v_ 3) da_nil)))) (dg_name rfl rfl claw.nd rfl (Or.inr rfl))) (dss_cons (ds_asg (vs := [5]) trivial (de_call (g_law_web fc _) (hr.mono (by decide)) hg cx_tk (by rfl) fc.g__law_web (da_cons (v_ 2) (da_cons (v_ 3) da_nil))) (dg_name rfl rfl claw.nd rfl (Or.inl rfl))) (dss_cons (ds_if trivial (DW.t (dw_or (dt_cmp (od_ne hu) (de_b bt_repr (b_repr hg hu) (by rfl) fc.f_repr (da_cons (de_call (gweb fc _) (hr.mono (by decide)) hg cx_tk (by rfl) fc.g_web (da_cons (v_ 4) da_nil)) da_nil)) (de_b bt_repr (b_repr hg hu) (by rfl) fc.f_repr (da_cons (v_ 5) da_nil)) (pm _ _)) (dw_or1 (dt_not (dt_tru (de_b bt_all (b_all (by rfl)) (by rfl) fc.f_all (da_cons (DF.toE (df_lc (by rfl) claw.nd (by rfl) (di_seq (v_ 5)) (blkOk_by (own := [("flat", 6)]) (by kernel_rfl)) (fun _ _ _ _ _ => (dg_name rfl rfl claw.nd rfl (Or.inl rfl))) (fun _ _ _ _ _ => pts_nil) tYes_go (fun _ _ _ _ _ => (de_cmp od_is (de_call (gis_flat fc _) (hr.mono (by decide)) hg (takes0 (by rfl)) (by rfl) fc.g_is_flat (da_cons (v_ 4) (da_cons (v_ 6) da_nil))) de_bl (pm _ _))))) da_nil))))))) (dss_one (ds_ret trivial de_bl)) dss_nil) (dss_cons (ds_if trivial (DW.t (dw_or (dt_not (dt_tru (de_callio (g_law_sets fc _) (hr.mono (by decide)) hg cx_tk (by rfl) fc.g__law_sets (by rfl) (pv 1) (da_cons (v_ 2) (da_cons (v_ 3) (da_cons (v_ 4) da_nil)))))) (dw_or1 (dt_not (dt_tru (de_callio (g_law_pairs fc _) (hr.mono (by decide)) hg cx_tk (by rfl) fc.g__law_pairs (by rfl) (pv 1) (da_cons (v_ 2) (da_cons (v_ 3) (da_cons (v_ 4) (da_cons (v_ 5) da_nil)))))))))) (dss_one (ds_ret trivial de_bl)) dss_nil) (dss_cons (ds_asg (vs := [7]) trivial (de_ix ix_d (DF.toE (df_lst (da_cons (de_tup (da_cons (de_b bt_len b_len (by rfl) fc.f_len (da_cons (v_ 3) da_nil)) da_nil)) (da_cons (de_tup (da_cons (de_un ud_neg de_int) da_nil)) (da_cons (de_tup (da_cons de_int (da_cons de_int da_nil))) (da_cons (de_tup (da_cons de_int (da_cons de_int da_nil))) (da_cons (de_tup (da_cons de_int (da_cons de_int da_nil))) da_nil))))))) (de_bin od_mod (de_ty bt_int b_int (by rfl) fc.f_int (da_cons (de_callio (g_law_next fc _) (hr.mono (by decide)) hg cx_tk (by rfl) fc.g__law_next (by rfl) (pv 1) da_nil) da_nil)) de_int) (fun _ _ => rfl)) (dg_name rfl rfl claw.nd rfl (Or.inl rfl))) (dss_cons (ds_if trivial (DW.t (dw_or (dt_cmp od_isnot (de_call (gis_flat fc _) (hr.mono (by decide)) hg cx_tk (by rfl) fc.g_is_flat (da_cons (v_ 4) (da_cons (v_ 7) da_nil))) de_bl (pm _ _)) (dw_or1 (dt_cmp (od_ne hu) (de_call (g_law_told fc _) (hr.mono (by decide)) hg cx_tk (by rfl) fc.g__law_told (da_cons de_int (da_cons (v_ 4) (da_cons (v_ 7) (da_cons (de_tup da_nil) da_nil))))) de_str (pm _ _))))) (dss_one (ds_ret trivial de_bl)) dss_nil) (dss_cons (ds_if trivial (DW.t (dw_or (dt_cmp (od_ne hu) (de_call (g_law_told fc _) (hr.mono (by decide)) hg cx_tk (by rfl) fc.g__law_told (da_cons de_int (da_cons (v_ 4) (da_cons (de_tup da_nil) (da_cons (v_ 7) da_nil))))) de_str (pm _ _)) (dw_or1 (dt_cmp (od_ne hu) (de_call (g_law_told fc _) (hr.mono (by decide)) hg cx_tk (by rfl) fc.g__law_told (da_cons de_int (da_cons (v_ 4) (da_cons (v_ 7) (da_cons (v_ 7) da_nil))))) de_str (pm _ _))))) (dss_one (ds_ret trivial de_bl)) dss_nil) (dss_cons (ds_for (vs := [8]) trivial cx_pw rfl (di_seq (DF.toE (df_lst (da_cons (de_un ud_neg de_int) (da_cons (de_b bt_len b_len (by rfl) fc.f_len (da_cons (v_ 3) da_nil)) da_nil))))) (dg_name rfl rfl claw.nd rfl (Or.inr rfl)) (dss_one (ds_if trivial (dt_not (dt_tru (de_b bt_all (b_all (by rfl)) (by rfl) fc.f_all (da_cons (DF.toE (df_lc (by rfl) claw.nd (by rfl) (di_range1 (by rfl) fc.f_range (da_cons de_int da_nil)) (blkOk_by (own := [("way", 9)]) (by kernel_rfl)) (fun _ _ _ _ _ => (dg_name rfl rfl claw.nd rfl (Or.inl rfl))) (fun _ _ _ _ _ => pts_nil) tYes_go (fun _ _ _ _ _ => (de_cmp (od_eq hu) (de_call (g_law_told fc _) (hr.mono (by decide)) hg (takes0 (by rfl)) (by rfl) fc.g__law_told (da_cons (v_ 9) (da_cons (v_ 4) (da_cons (DF.toE (df_lst (da_cons (v_ 8) da_nil))) (da_cons (de_tup da_nil) da_nil))))) de_str (pm _ _))))) da_nil)))) (dss_one (ds_ret trivial de_bl)) dss_nil))) (dss_one (ds_ret trivial de_bl))))))))))))))
end
end K30
namespace K30
open Q DL PySem PySem.Spec PyProof.Rows
abbrev Et (w : Int) (a b c : D) : En := [some (.int w), some a, some b, some c, none]
abbrev bodyT : MS := (msSeq (msIf (mTest (m2 gEq (mVar 0) (mK (.int 0)))) (msRet (mCall Q.Fflat_of_v2 (mCons (mVar 1) (mCons (mVar 2) mNil)))) msNil) (msSeq (msIf (mTest (m2 gEq (mVar 0) (mK (.int 1)))) (msRet (mCall Q.Fmeets (mCons (mVar 1) (mCons (mVar 2) mNil)))) msNil) (msSeq (msIf (mTest (m2 gEq (mVar 0) (mK (.int 2)))) (msRet (mCall Q.Frank_of (mCons (mVar 1) (mCons (mVar 2) mNil)))) msNil) (msSeq (msIf (mTest (m2 gEq (mVar 0) (mK (.int 3)))) (msRet (mCall Q.Fflat_dimension_v2 (mCons (mVar 1) (mCons (mVar 2) mNil)))) msNil) (msSeq (msIf (mTest (m2 gEq (mVar 0) (mK (.int 4)))) (msRet (mCall Q.Fspan_of_v2 (mCons (mVar 1) (mCons (mVar 2) (mCons (mVar 3) mNil))))) msNil) (msRet (mCall Q.Fmeet_of_v2 (mCons (mVar 1) (mCons (mVar 2) (mCons (mVar 3) mNil))))))))))
theorem kind_flat : FX_law_error "NotFlat" = .rt (.str "!flat") .non := by kernel_rfl
theorem kind_answer : FX_law_error "NoAnswer" = .rt (.str "!answer") .non := by kernel_rfl
theorem kind_number : FX_law_error "BadNumber" = .rt (.str "!number") .non := by kernel_rfl
section
variable {w : Int} {a b c out : D}
theorem told_ok (h : bodyT (Et w a b c) = .rt out (Et w a b c)) (ρ : En) : (F_law_told [.int w, a, b, c]).R ρ = .ok out ρ := by
  have e : m_law_told (Et w a b c) = .rt out (Et w a b c) := by
    show msTryAs mtPlaneError 4 bodyT _ (Et w a b c) = _
    rw [mTryAs_ap, h]
  have := runM_rt (n := 5) (np := 4) (dd := []) (fr := false) (m := m_law_told) (ds := [.int w, a, b, c]) rfl e
  unfold F_law_told
  rw [this, Ret.R_rt]
theorem told_ex {k z : Str} (h : bodyT (Et w a b c) = .ex ⟨k, []⟩ (Et w a b c)) (hm : mtPlaneError k = some true) (hk : FX_law_error k = .rt (.str z) .non) (ρ : En) : (F_law_told [.int w, a, b, c]).R ρ = .ok (.str z) ρ := by
  have e : ∃ ρ', m_law_told (Et w a b c) = .rt (.str z) ρ' := by
    refine ⟨?_, ?_⟩
    rotate_left
    · show msTryAs mtPlaneError 4 bodyT _ (Et w a b c) = _
      rw [mTryAs_ap, h]
      simp -implicitDefEqProofs [obind, hm, fgt, mCallX, hk]
      rfl
  obtain ⟨ρ', e⟩ := e
  have := runM_rt (n := 5) (np := 4) (dd := []) (fr := false) (m := m_law_told) (ds := [.int w, a, b, c]) rfl e
  unfold F_law_told
  rw [this, Ret.R_rt]
theorem ob_rt {r : DL.R D} {ρ : En} (h : r = .ok out ρ) : (obind r fun d ρ1 => Out.rt d ρ1) = .rt out ρ := by rw [h]; rfl
theorem ob_ex {r : DL.R D} {ρ : En} {x : Xn} (h : r = .ex x ρ) : (obind r fun d ρ1 => Out.rt d ρ1) = .ex x ρ := by rw [h]; rfl
theorem body_0 : bodyT (Et 0 a b c) = obind ((Q.Fflat_of_v2 [a, b]).R (Et 0 a b c)) fun d ρ1 => .rt d ρ1 := by
  simp -implicitDefEqProofs [mCall_R]
  cases hx : (Q.Fflat_of_v2 [a, b]).R (Et 0 a b c) <;> rfl
theorem body_1 : bodyT (Et 1 a b c) = obind ((Q.Fmeets [a, b]).R (Et 1 a b c)) fun d ρ1 => .rt d ρ1 := by
  simp -implicitDefEqProofs [mCall_R]
  cases hx : (Q.Fmeets [a, b]).R (Et 1 a b c) <;> rfl
theorem body_2 : bodyT (Et 2 a b c) = obind ((Q.Frank_of [a, b]).R (Et 2 a b c)) fun d ρ1 => .rt d ρ1 := by
  simp -implicitDefEqProofs [mCall_R]
  cases hx : (Q.Frank_of [a, b]).R (Et 2 a b c) <;> rfl
theorem body_3 : bodyT (Et 3 a b c) = obind ((Q.Fflat_dimension_v2 [a, b]).R (Et 3 a b c)) fun d ρ1 => .rt d ρ1 := by
  simp -implicitDefEqProofs [mCall_R]
  cases hx : (Q.Fflat_dimension_v2 [a, b]).R (Et 3 a b c) <;> rfl
theorem body_4 : bodyT (Et 4 a b c) = obind ((Q.Fspan_of_v2 [a, b, c]).R (Et 4 a b c)) fun d ρ1 => .rt d ρ1 := by
  simp -implicitDefEqProofs [mCall_R]
  cases hx : (Q.Fspan_of_v2 [a, b, c]).R (Et 4 a b c) <;> rfl
theorem body_5 : bodyT (Et 5 a b c) = obind ((Q.Fmeet_of_v2 [a, b, c]).R (Et 5 a b c)) fun d ρ1 => .rt d ρ1 := by
  simp -implicitDefEqProofs [mCall_R]
end
theorem mtF : mtPlaneError "NotFlat" = some true := by decide
theorem mtA : mtPlaneError "NoAnswer" = some true := by decide
theorem mtB : mtPlaneError "BadNumber" = some true := by decide
section
variable {n : Nat} {ps : List (List Int)} {ks f g : List Nat} {as : List Int} {d c : D}
def due0 (n : Nat) (ps : List (List Int)) (ks : List Nat) : D := if metL n ps ks = true then tix (clL n ps ks) else .str "!answer"
def dueK (n : Nat) (ps : List (List Int)) (ks : List Nat) : Nat → D
  | 0 => due0 n ps ks
  | 1 => .bl (metL n ps ks)
  | _ => .int (rankL n (pickK ps ks) : Nat)
theorem t_k (hp : Pk n ps) (hk : ∀ k ∈ ks, k < ps.length) (hl : ks.length ≤ 100) (hd : IxS d ks) {w : Nat} (hw : w < 3) (ρ : En) : (F_law_told [.int (w : Nat), PO n ps, d, c]).R ρ = .ok (dueK n ps ks w) ρ := by
  match w, hw with
  | 0, _ =>
    show (F_law_told [.int 0, PO n ps, d, c]).R ρ = _
    have v := v_flatOfS hp hk hl hd
    unfold dueK due0
    cases m : metL n ps ks with
    | true =>
      simp only [m, if_true] at v ⊢
      exact told_ok (by rw [body_0]; exact ob_rt (v _)) ρ
    | false =>
      simp only [m, Bool.false_eq_true, if_false] at v ⊢
      exact told_ex (k := "NoAnswer") (by rw [body_0]; exact ob_ex (v _)) mtA kind_answer ρ
  | 1, _ => exact told_ok (by show bodyT (Et 1 _ _ _) = _; rw [body_1]; exact ob_rt (v_meetsS hp hk hl hd _)) ρ
  | 2, _ => exact told_ok (by show bodyT (Et 2 _ _ _) = _; rw [body_2]; exact ob_rt (v_rankS hp hk hl hd _)) ρ
theorem t_3 (hp : Pk n ps) (h : isFl n ps f) (ρ : En) : (F_law_told [.int 3, PO n ps, tix f, c]).R ρ = .ok (.int (n - rankL n (pickK ps f))) ρ := told_ok (by rw [body_3]; exact ob_rt (v_flatDim hp h _)) ρ
theorem t_4 (hp : Pk n ps) (h : isFl n ps f) (h' : isFl n ps g) (ρ : En) : (F_law_told [.int 4, PO n ps, tix f, tix g]).R ρ = .ok (tix (f.filter fun x => decide (x ∈ g))) ρ := told_ok (by rw [body_4]; exact ob_rt (v_spanOf hp h h' _)) ρ
theorem t_5 (hp : Pk n ps) (h : isFl n ps f) (h' : isFl n ps g) (ρ : En) : (F_law_told [.int 5, PO n ps, tix f, tix g]).R ρ = .ok (if metL n ps (f ++ g) = true then tix (clL n ps (f ++ g)) else .non) ρ := told_ok (by rw [body_5]; exact ob_rt (v_meetOf hp h h' _)) ρ
theorem t_3n (h : ∀ ρ, (Q.Fis_flat_v2 [PO n ps, d]).R ρ = .ok (.bl false) ρ) (ρ : En) : (F_law_told [.int 3, PO n ps, d, c]).R ρ = .ok (.str "!flat") ρ := told_ex (k := "NotFlat") (by rw [body_3]; exact ob_ex (v_flatDimNo h _)) mtF kind_flat ρ
theorem t_4n {b : Bool} (h1 : ∀ ρ, (Q.Fis_flat_v2 [PO n ps, c]).R ρ = .ok (.bl b) ρ) (h : ∀ ρ, (Q.Fis_flat_v2 [PO n ps, d]).R ρ = .ok (.bl false) ρ) (ρ : En) : (F_law_told [.int 4, PO n ps, c, d]).R ρ = .ok (.str "!flat") ρ := told_ex (k := "NotFlat") (by rw [body_4]; exact ob_ex (v_spanNo h1 h _)) mtF kind_flat ρ
theorem t_5n (h : ∀ ρ, (Q.Fis_flat_v2 [PO n ps, d]).R ρ = .ok (.bl false) ρ) (ρ : En) : (F_law_told [.int 5, PO n ps, d, c]).R ρ = .ok (.str "!flat") ρ := told_ex (k := "NotFlat") (by rw [body_5]; exact ob_ex (v_meetNo h _)) mtF kind_flat ρ
theorem t_bad (hp : Pk n ps) (hd : Sq d (as.map .int)) (h : inRA ps.length as = false) {w : Nat} (hw : w < 3) (ρ : En) : (F_law_told [.int (w : Nat), PO n ps, d, c]).R ρ = .ok (.str "!number") ρ := by
  have l6 := hp.len
  have v := fun ρ => v_placesS (n := n) (ps := ps) hd (by omega) ρ
  simp only [h, Bool.false_eq_true, if_false] at v
  match w, hw with
  | 0, _ => exact told_ex (k := "BadNumber") (by
      show bodyT (Et 0 _ _ _) = _; rw [body_0]
      refine ob_ex ?_
      generalize PO n ps = P at *
      simp -implicitDefEqProofs [Q.Fflat_of_v2, runM, Q.mflat_of_v2, pad, mCall_R, v]) mtB kind_number ρ
  | 1, _ => exact told_ex (k := "BadNumber") (by
      show bodyT (Et 1 _ _ _) = _; rw [body_1]
      refine ob_ex ?_
      generalize PO n ps = P at *
      simp -implicitDefEqProofs [Q.Fmeets, runM, Q.mmeets, pad, mCall_R, v]) mtB kind_number ρ
  | 2, _ => exact told_ex (k := "BadNumber") (by
      show bodyT (Et 2 _ _ _) = _; rw [body_2]
      refine ob_ex ?_
      generalize PO n ps = P at *
      simp -implicitDefEqProofs [Q.Frank_of, runM, Q.mrank_of, pad, mCall_R, v]) mtB kind_number ρ
theorem repr_tix {a : List Nat} (hl : a.length ≤ 20) (hx : ∀ x ∈ a, x ≤ 100) : ∃ z, gRepr [tix a] = some (.str z) :=
  (Sb.tup (W := 0) (n := 1) (fun d hd => by
    obtain ⟨x, hx', rfl⟩ := List.mem_map.mp hd
    have := hx x hx'
    exact Sb.int (Nat.lt_of_lt_of_le (show ((x : Nat) : Int).natAbs < 2 ^ 7 by omega) (Nat.pow_le_pow_right (by decide) (by decide)))) (by rw [List.length_map]; omega) : Sb 8000 2 (tix a)).shown (by decide) (by decide)
theorem repr_int {a : Int} (h : a.natAbs ≤ 1000) : ∃ z, gRepr [.int a] = some (.str z) := (Sb.int (a := a) (by
  have : a.natAbs < 2 ^ 10 := by omega
  exact Nat.lt_of_lt_of_le this (Nat.pow_le_pow_right (by decide) (by decide)))).shown (by decide) (by decide)
theorem repr_bl (b : Bool) : ∃ z, gRepr [.bl b] = some (.str z) := by
  cases b with
  | true => exact ⟨"True", by kernel_rfl⟩
  | false => exact ⟨"False", by kernel_rfl⟩
theorem repr_non : ∃ z, gRepr [.non] = some (.str z) := ⟨"None", by kernel_rfl⟩
theorem repr_ans : ∃ z, gRepr [.str "!answer"] = some (.str z) := ⟨"'!answer'", by kernel_rfl⟩
theorem repr_due (hp : Pk n ps) (hk : ∀ k ∈ ks, k < ps.length) {w : Nat} : ∃ z, gRepr [dueK n ps ks w] = some (.str z) := by
  have l6 := hp.len
  match w with
  | 0 =>
    show ∃ z, gRepr [due0 n ps ks] = some (.str z)
    unfold due0
    split
    · have := (subs_mem (subs_filter (fun k => decide (rankL (n + 1) (pickK ps ks ++ [ps.getD k []]) = rankL (n + 1) (pickK ps ks))) ps.length)).1
      exact repr_tix (by unfold clL; omega) fun x hx => by have := cl_lt x hx; omega
    · exact repr_ans
  | 1 => exact repr_bl _
  | w + 2 =>
    have h := rank_n hp.rows hk
    have n3 := hp.n3
    exact repr_int (a := (rankL n (pickK ps ks) : Nat)) (by omega)
end
end K30
namespace K30
open Q DL PySem PySem.Spec PyProof.Rows
section
variable {n : Nat} {ps : List (List Int)} {ks : List Nat}
def ixL (ks : List Nat) : D := .lst (ks.map fun k => D.int (k : Nat))
theorem ixL_s (ks : List Nat) : IxS (ixL ks) ks := .lst _
theorem pd_ixL (a : List Nat) : Pd 1 (ixL a) := fun d hd => by
  obtain ⟨i, _, rfl⟩ := List.mem_map.mp hd
  unfold Pd; trivial
theorem ne_ixL (a : List Nat) : gNe (ixL a) (ixL a) = some (.bl false) := by
  rw [gNe_pd (pd_ixL a) (pd_ixL a) (by decide) (by decide) (P := True) (by simp)]
  rfl
theorem neS_self (z : Str) : gNe (.str z) (.str z) = some (.bl false) := by rw [S_of z, gNe_S]; simp
theorem eqS_self (z : Str) : gEq (.str z) (.str z) = some (.bl true) := by rw [S_of z, gEq_S]; simp
abbrev Es (l : List Int) (n : Nat) (ps : List (List Int)) (o4 o5 o6 o7 o8 o9 o10 o11 : Option D) : En := [some (dl l), some (.int (n : Nat)), some (.lst (ps.map pl)), some (PO n ps), o4, o5, o6, o7, o8, o9, o10, o11]
theorem tru_pls (ps : List (List Int)) : tru (.lst (ps.map pl)) = some (!ps.isEmpty) := by
  cases ps <;> rfl
theorem sb0_go (hp : Pk n ps) (l : List Int) {ks : List Nat} (hk : ∀ k ∈ ks, k < ps.length) (hl : ks.length ≤ 100) (o4 o6 o7 o8 o9 o10 o11 : Option D) : ∃ l' ks', m_law_sets_b0 (Es l n ps o4 (some (ixL ks)) o6 o7 o8 o9 o10 o11) = .nx (Es l' n ps o4 (some (ixL ks')) o6 o7 o8 o9 o10 o11) ∧ (∀ k ∈ ks', k < ps.length) ∧ ks'.length ≤ ks.length + 1 := by
  have sz := szv
  have l6 := hp.len
  have tr := tru_pls ps
  have gl : gLen [.lst (ps.map pl)] = some (.int (ps.length : Nat)) := by simp [gLen]
  by_cases c : ps = []
  · refine ⟨l, ks, ?_, hk, by omega⟩
    have e : (!ps.isEmpty) = false := by rw [c]; rfl
    rw [e] at tr
    unfold Es ixL
    clear gl
    generalize PO n ps = P at *
    generalize D.lst (ps.map pl) = L at *
    generalize ks.map (fun k => D.int (k : Nat)) = K at *
    simp -implicitDefEqProofs [m_law_sets_b0, tr]
  · have pos : 0 < ps.length := List.length_pos_iff.mpr c
    have e : (!ps.isEmpty) = true := by cases ps with
      | nil => exact absurd rfl c
      | cons _ _ => rfl
    rw [e] at tr
    obtain ⟨r1, r2⟩ := fm_rng (drawI l) (m := (ps.length : Int)) (by omega)
    obtain ⟨k, hk'⟩ : ∃ k : Nat, (drawI l).fmod (ps.length : Int) = (k : Int) := ⟨((drawI l).fmod (ps.length : Int)).toNat, by omega⟩
    have gm := gMod_p (drawI l) (m := (ps.length : Int)) (by omega)
    rw [hk'] at gm
    refine ⟨l.dropLast, ks ++ [k], ?_, ?_, by rw [List.length_append]; simp⟩
    · have ap := app_ds (L := ks.map fun k => D.int (k : Nat)) (x := .int (k : Nat)) (by rw [List.length_map]; omega)
      have em : (ks.map fun k => D.int (k : Nat)) ++ [.int (k : Nat)] = (ks ++ [k]).map fun k => D.int (k : Nat) := by rw [List.map_append]; rfl
      rw [em] at ap
      unfold Es ixL
      generalize (ks ++ [k]).map (fun k => D.int (k : Nat)) = K2 at *
      generalize ks.map (fun k => D.int (k : Nat)) = K at *
      generalize (ps.length : Int) = q at *
      generalize (k : Int) = ki at *
      generalize PO n ps = P at *
      generalize D.lst (ps.map pl) = L at *
      simp -implicitDefEqProofs [m_law_sets_b0, tr, io_next, gl, gm, ap, getO]
    · intro x hx
      rcases List.mem_append.mp hx with z | z
      · exact hk x z
      · rw [List.mem_singleton.mp z]; omega
theorem sl0_go (hp : Pk n ps) (o4 o7 o8 o9 o10 o11 : Option D) : ∀ (xs : List D) (l : List Int) (ks : List Nat) (o6 : Option D), (∀ k ∈ ks, k < ps.length) → ks.length + xs.length ≤ 100 → ∃ l' ks' o6', loopL (mgName 6) m_law_sets_b0 xs (Es l n ps o4 (some (ixL ks)) o6 o7 o8 o9 o10 o11) = .nx (Es l' n ps o4 (some (ixL ks')) o6' o7 o8 o9 o10 o11) ∧ (∀ k ∈ ks', k < ps.length) ∧ ks'.length ≤ ks.length + xs.length
  | [], l, ks, o6, hk, _ => ⟨l, ks, o6, rfl, hk, Nat.le_add_right _ _⟩
  | x :: xs, l, ks, o6, hk, hl => by
    rw [List.length_cons] at hl
    obtain ⟨l1, k1, b, h1, h2⟩ := sb0_go hp l hk (by omega) o4 (some x) o7 o8 o9 o10 o11
    obtain ⟨l', ks', o6', e, h3, h4⟩ := sl0_go hp o4 o7 o8 o9 o10 o11 xs l1 k1 (some x) h1 (by omega)
    refine ⟨l', ks', o6', ?_, h3, by rw [List.length_cons]; omega⟩
    rw [loop_step (ρ1 := Es l n ps o4 (some (ixL ks)) (some x) o7 o8 o9 o10 o11) rfl b, e]
theorem v_isFlA (hp : Pk n ps) (hk : ∀ k ∈ ks, k < ps.length) (hl : ks.length ≤ 100) (ρ : En) : (Q.Fis_flat_v2 [PO n ps, tix ks]).R ρ = .ok (.bl (metL n ps ks && decide (clL n ps ks = ks))) ρ := by
  cases c : ascBA (ks.map fun i : Nat => (i : Int)) with
  | true => exact v_isFlatK hp hk hl c ρ
  | false =>
    have : decide (clL n ps ks = ks) = false := decide_eq_false fun z => by
      have h := cl_asc n ps ks
      rw [z] at h
      rw [(onlyOk h hk).2] at c
      cases c
    rw [this, Bool.and_false, tix_ix]
    exact v_isFlatN hp (by rw [List.length_map]; exact hl) (by rw [c]; rfl) ρ
theorem sb1_go (hp : Pk n ps) (hk : ∀ k ∈ ks, k < ps.length) (hl : ks.length ≤ 100) {w : Nat} (hw : w < 3) (l : List Int) (o4 o6 o7 o11 : Option D) : m_law_sets_b1 (Es l n ps o4 (some (ixL ks)) o6 o7 (some (.lst [dueK n ps ks 0, dueK n ps ks 1, dueK n ps ks 2])) (some (ixL ks)) (some (.int (w : Nat))) o11) = .nx (Es l n ps o4 (some (ixL ks)) o6 o7 (some (.lst [dueK n ps ks 0, dueK n ps ks 1, dueK n ps ks 2])) (some (ixL ks)) (some (.int (w : Nat))) o11) := by
  have t := fun ρ => t_k (c := .tup []) hp hk hl (ixL_s ks) hw ρ
  have ix : gIx (.lst [dueK n ps ks 0, dueK n ps ks 1, dueK n ps ks 2]) (.int (w : Nat)) = some (dueK n ps ks w) := by
    match w, hw with
    | 0, _ => rfl
    | 1, _ => rfl
    | 2, _ => rfl
  obtain ⟨z, r⟩ := repr_due (w := w) hp hk
  have ns := neS_self z
  have ni := ne_ixL ks
  unfold Es
  generalize D.lst [dueK n ps ks 0, dueK n ps ks 1, dueK n ps ks 2] = DU at *
  generalize dueK n ps ks w = dw at *
  generalize PO n ps = P at *
  generalize D.lst (ps.map pl) = L at *
  generalize ixL ks = K at *
  generalize D.int (w : Nat) = wi at *
  unfold m_law_sets_b1
  generalize F_law_told = FT at *
  simp -implicitDefEqProofs [mCall_R, t, r, ix, ns, ni]
end
end K30
namespace K30
open Q DL PySem PySem.Spec PyProof.Rows
section
variable {n : Nat} {ps : List (List Int)} {ks : List Nat}
theorem rg3 : gRange1 [.int 3] = some (([0, 1, 2] : List Nat).map fun i => D.int (i : Nat)) := by kernel_rfl
def duL (n : Nat) (ps : List (List Int)) (ks : List Nat) : D := .lst [dueK n ps ks 0, dueK n ps ks 1, dueK n ps ks 2]
theorem d3_go (hp : Pk n ps) (hk : Kk ps ks) (l : List Int) (o4 o6 o8 o9 o10 o11 : Option D) : (msAsg (mN gLst (mCons (mIf (mTru (mVar 7)) (mCall Q.F_law_closed (mCons (mVar 1) (mCons (mVar 2) (mCons (mVar 5) mNil)))) (mK (.str "!answer"))) (mCons (mVar 7) (mCons (mCall Q.F_law_rank (mCons (mCall Q.F_law_chosen (mCons (mVar 2) (mCons (mVar 5) mNil))) (mCons (mVar 1) mNil))) mNil)))) (mgName 8)) (Es l n ps o4 (some (ixL ks)) o6 (some (.bl (metL n ps ks))) o8 o9 o10 o11) = .nx (Es l n ps o4 (some (ixL ks)) o6 (some (.bl (metL n ps ks))) (some (duL n ps ks)) o9 o10 o11) := by
  have sz := szv
  have kl := hk.len
  have v1 := fun ρ => v_lclosedS hp hk.lt kl (ixL_s ks) ρ
  have v2 := fun ρ => v_lchosenS (ixL_s ks) hk.lt (by omega) ρ
  have v3 := fun ρ => v_lrk hp (Sq.lst ((pickK ps ks).map pl)) (Kk.pick hp hk) (by rw [pick_len]; omega) (Nat.le_succ n) ρ
  have ed : duL n ps ks = .lst [due0 n ps ks, .bl (metL n ps ks), .int (rankL n (pickK ps ks) : Nat)] := rfl
  rw [ed]
  unfold due0
  generalize (rankL n (pickK ps ks) : Int) = rk at *
  cases c : metL n ps ks with
  | true =>
    simp only [if_true]
    unfold Es
    generalize tix (clL n ps ks) = Z at *
    generalize D.lst ((pickK ps ks).map pl) = X at *
    generalize PO n ps = P at *
    generalize D.lst (ps.map pl) = L at *
    generalize ixL ks = K at *
    generalize (n : Int) = nn at *
    simp -implicitDefEqProofs [mCall_R, v1, v2, v3, show 3 ≤ sizeLine by omega]
  | false =>
    simp only [Bool.false_eq_true, if_false]
    unfold Es
    generalize D.lst ((pickK ps ks).map pl) = X at *
    generalize PO n ps = P at *
    generalize D.lst (ps.map pl) = L at *
    generalize ixL ks = K at *
    generalize (n : Int) = nn at *
    simp -implicitDefEqProofs [mCall_R, v1, v2, v3, show 3 ≤ sizeLine by omega]
theorem d7_go (hp : Pk n ps) (hk : Kk ps ks) (l : List Int) (o4 o6 o9 o10 : Option D) : (msIf (mTest (m2 gNe (mN gRepr (mCons (mCall Q.Fis_flat_v2 (mCons (mVar 3) (mCons (mVar 11) mNil))) mNil)) (mN gRepr (mCons (mAnd (mVar 7) (m2 gEq (m2 gIx (mVar 8) (mK (.int 0))) (mVar 11))) mNil)))) (msRet (mK (.bl false))) msNil) (Es l n ps o4 (some (ixL ks)) o6 (some (.bl (metL n ps ks))) (some (duL n ps ks)) o9 o10 (some (tix ks))) = .nx (Es l n ps o4 (some (ixL ks)) o6 (some (.bl (metL n ps ks))) (some (duL n ps ks)) o9 o10 (some (tix ks))) := by
  have kl := hk.len
  have v1 := fun ρ => v_isFlA hp hk.lt (by omega) ρ
  have ix : gIx (duL n ps ks) (.int 0) = some (due0 n ps ks) := rfl
  obtain ⟨z, r⟩ := repr_bl (metL n ps ks && decide (clL n ps ks = ks))
  have ns := neS_self z
  have ge := eq_tix (clL n ps ks) ks
  have md : (mAnd (mVar 7) (m2 gEq (m2 gIx (mVar 8) (mK (.int 0))) (mVar 11))) (Es l n ps o4 (some (ixL ks)) o6 (some (.bl (metL n ps ks))) (some (duL n ps ks)) o9 o10 (some (tix ks))) = .ok (.bl (metL n ps ks && decide (clL n ps ks = ks))) (Es l n ps o4 (some (ixL ks)) o6 (some (.bl (metL n ps ks))) (some (duL n ps ks)) o9 o10 (some (tix ks))) := by
    unfold due0 at ix
    cases c : metL n ps ks with
    | true =>
      rw [c] at ix
      simp only [if_true] at ix
      unfold Es
      generalize decide (clL n ps ks = ks) = b at *
      generalize tix (clL n ps ks) = Z at *
      generalize PO n ps = P at *
      generalize D.lst (ps.map pl) = L at *
      generalize ixL ks = K at *
      generalize tix ks = T at *
      generalize duL n ps ks = DU at *
      simp -implicitDefEqProofs [mAnd, ix, ge]
    | false =>
      unfold Es
      generalize PO n ps = P at *
      generalize D.lst (ps.map pl) = L at *
      generalize ixL ks = K at *
      generalize tix ks = T at *
      generalize duL n ps ks = DU at *
      simp -implicitDefEqProofs [mAnd]
  clear ge ix
  unfold Es at *
  generalize (metL n ps ks && decide (clL n ps ks = ks)) = b at *
  generalize mAnd (mVar 7) (m2 gEq (m2 gIx (mVar 8) (mK (.int 0))) (mVar 11)) = M at *
  generalize PO n ps = P at *
  generalize D.lst (ps.map pl) = L at *
  generalize ixL ks = K at *
  generalize tix ks = T at *
  generalize duL n ps ks = DU at *
  simp -implicitDefEqProofs [mCall_R, v1, md, r, ns]
theorem sb2_go (hp : Pk n ps) (l : List Int) (o4 o5 o6 o7 o8 o9 o10 o11 : Option D) : ∃ l' o5' o6' o7' o8' o9' o10' o11', m_law_sets_b2 (Es l n ps o4 o5 o6 o7 o8 o9 o10 o11) = .nx (Es l' n ps o4 o5' o6' o7' o8' o9' o10' o11') := by
  have sz := szv
  have l6 := hp.len
  obtain ⟨r1, r2⟩ := fm_rng (drawI l) (m := 5) (by decide)
  obtain ⟨m, hm⟩ : ∃ m : Nat, (drawI l).fmod 5 = (m : Int) := ⟨((drawI l).fmod 5).toNat, by omega⟩
  have gm := gMod_p (drawI l) (m := 5) (by decide)
  rw [hm] at gm
  have rg := range1 (n := m) (by omega)
  obtain ⟨l', ks, p6, e, hk, hl⟩ := sl0_go hp o4 o7 o8 o9 o10 o11 ((List.range m).map fun i => D.int (i : Nat)) l.dropLast [] o6 (fun _ h => absurd h List.not_mem_nil) (by rw [List.length_map, List.length_range]; simp; omega)
  rw [List.length_map, List.length_range] at hl
  have hl : ks.length ≤ 4 := by simp at hl; omega
  have kk : Kk ps ks := ⟨hk, by omega⟩
  have e0 : (msOwn 5 (mN gLst mNil)) (Es l n ps o4 none o6 o7 o8 o9 o10 o11) = .nx (Es l n ps o4 (some (ixL [])) o6 o7 o8 o9 o10 o11) := by
    show _ = Out.nx (Es l n ps o4 (some (.lst ([] : List D))) o6 o7 o8 o9 o10 o11)
    unfold Es
    generalize PO n ps = P at *
    generalize D.lst (ps.map pl) = L at *
    simp -implicitDefEqProofs
  have e1 : (msFor (mItN gRange1 (mCons (m2 gMod (mN gInt (mCons (mCallIo Q.F_law_next 0 mNil) mNil)) (mK (.int 5))) mNil)) (mgName 6) m_law_sets_b0) (Es l n ps o4 (some (ixL [])) o6 o7 o8 o9 o10 o11) = .nx (Es l' n ps o4 (some (ixL ks)) p6 o7 o8 o9 o10 o11) := by
    clear e0
    unfold Es at *
    generalize (List.range m).map (fun i => D.int (i : Nat)) = RL at *
    generalize m_law_sets_b0 = B at *
    generalize (m : Int) = mi at *
    generalize PO n ps = P at *
    generalize D.lst (ps.map pl) = L at *
    generalize ixL ks = K at *
    generalize ixL [] = K0 at *
    simp -implicitDefEqProofs [io_next, gm, rg, e, -gRange1_i]
  have v1 := fun ρ => v_lmetS hp kk (ixL_s ks) ρ
  have e2 : (msAsg (mCall Q.F_law_is_met (mCons (mVar 1) (mCons (mVar 2) (mCons (mVar 5) mNil)))) (mgName 7)) (Es l' n ps o4 (some (ixL ks)) p6 o7 o8 o9 o10 o11) = .nx (Es l' n ps o4 (some (ixL ks)) p6 (some (.bl (metL n ps ks))) o8 o9 o10 o11) := by
    clear e0 e1 e
    unfold Es
    generalize metL n ps ks = b at *
    generalize PO n ps = P at *
    generalize D.lst (ps.map pl) = L at *
    generalize ixL ks = K at *
    generalize (n : Int) = nn at *
    simp -implicitDefEqProofs [mCall_R, v1]
  have e3 := d3_go hp kk l' o4 p6 o8 o9 o10 o11
  have gl : gList [ixL ks] = some (ixL ks) := (ixL_s ks).glst
  have gt : gTuple [ixL ks] = some (tix ks) := (ixL_s ks).gtup
  have e4 : (msAsg (mN gList (mCons (mVar 5) mNil)) (mgName 9)) (Es l' n ps o4 (some (ixL ks)) p6 (some (.bl (metL n ps ks))) (some (duL n ps ks)) o9 o10 o11) = .nx (Es l' n ps o4 (some (ixL ks)) p6 (some (.bl (metL n ps ks))) (some (duL n ps ks)) (some (ixL ks)) o10 o11) := by
    clear e0 e1 e e2 e3
    unfold Es
    generalize metL n ps ks = b at *
    generalize duL n ps ks = DU at *
    generalize PO n ps = P at *
    generalize D.lst (ps.map pl) = L at *
    generalize ixL ks = K at *
    simp -implicitDefEqProofs [gl]
  have lp : ∀ (xs : List Nat) (o10 : Option D), (∀ w ∈ xs, w < 3) → ∃ o10', loopL (mgName 10) m_law_sets_b1 (xs.map fun i => D.int (i : Nat)) (Es l' n ps o4 (some (ixL ks)) p6 (some (.bl (metL n ps ks))) (some (duL n ps ks)) (some (ixL ks)) o10 o11) = .nx (Es l' n ps o4 (some (ixL ks)) p6 (some (.bl (metL n ps ks))) (some (duL n ps ks)) (some (ixL ks)) o10' o11) := by
    intro xs
    induction xs with
    | nil => exact fun o10 _ => ⟨o10, rfl⟩
    | cons w xs ih =>
      intro o10 hw
      obtain ⟨q, e⟩ := ih (some (.int (w : Nat))) fun x hx => hw x (List.mem_cons_of_mem _ hx)
      refine ⟨q, ?_⟩
      have b : m_law_sets_b1 (Es l' n ps o4 (some (ixL ks)) p6 (some (.bl (metL n ps ks))) (some (duL n ps ks)) (some (ixL ks)) (some (.int (w : Nat))) o11) = .nx (Es l' n ps o4 (some (ixL ks)) p6 (some (.bl (metL n ps ks))) (some (duL n ps ks)) (some (ixL ks)) (some (.int (w : Nat))) o11) := sb1_go hp hk (by omega) (hw w List.mem_cons_self) l' o4 p6 (some (.bl (metL n ps ks))) o11
      rw [List.map_cons, loop_step (ρ1 := Es l' n ps o4 (some (ixL ks)) p6 (some (.bl (metL n ps ks))) (some (duL n ps ks)) (some (ixL ks)) (some (.int (w : Nat))) o11) rfl b, e]
  obtain ⟨p10, e5⟩ := lp [0, 1, 2] o10 (by decide)
  have e5 : (msFor (mItN gRange1 (mCons (mK (.int 3)) mNil)) (mgName 10) m_law_sets_b1) (Es l' n ps o4 (some (ixL ks)) p6 (some (.bl (metL n ps ks))) (some (duL n ps ks)) (some (ixL ks)) o10 o11) = .nx (Es l' n ps o4 (some (ixL ks)) p6 (some (.bl (metL n ps ks))) (some (duL n ps ks)) (some (ixL ks)) p10 o11) := by
    have r3 := rg3
    clear e0 e1 e e2 e3 e4 lp rg
    unfold Es at *
    generalize ([0, 1, 2] : List Nat).map (fun i => D.int (i : Nat)) = RL at *
    generalize m_law_sets_b1 = B at *
    generalize metL n ps ks = b at *
    generalize duL n ps ks = DU at *
    generalize PO n ps = P at *
    generalize D.lst (ps.map pl) = L at *
    generalize ixL ks = K at *
    simp -implicitDefEqProofs [r3, e5, -gRange1_i]
  have e6 : (msAsg (mN gTuple (mCons (mVar 5) mNil)) (mgName 11)) (Es l' n ps o4 (some (ixL ks)) p6 (some (.bl (metL n ps ks))) (some (duL n ps ks)) (some (ixL ks)) p10 o11) = .nx (Es l' n ps o4 (some (ixL ks)) p6 (some (.bl (metL n ps ks))) (some (duL n ps ks)) (some (ixL ks)) p10 (some (tix ks))) := by
    clear e0 e1 e e2 e3 e4 e5 lp
    unfold Es
    generalize metL n ps ks = b at *
    generalize duL n ps ks = DU at *
    generalize PO n ps = P at *
    generalize D.lst (ps.map pl) = L at *
    generalize ixL ks = K at *
    generalize tix ks = T at *
    simp -implicitDefEqProofs [gt]
  have e7 := d7_go hp kk l' o4 p6 (some (ixL ks)) p10
  refine ⟨l', some (ixL ks), p6, some (.bl (metL n ps ks)), some (duL n ps ks), some (ixL ks), p10, some (tix ks), ?_⟩
  unfold m_law_sets_b2
  rw [msForget_ap]
  show msSeq _ _ (Es l n ps o4 none o6 o7 o8 o9 o10 o11) = _
  rw [seq_nx e0, seq_nx e1, seq_nx e2, seq_nx e3, seq_nx e4, seq_nx e5, seq_nx e6, e7]
theorem v_lsets (hp : Pk n ps) (l : List Int) : ∃ l', F_law_sets [dl l, .int (n : Nat), .lst (ps.map pl), PO n ps] = .rt (.bl true) (dl l') := by
  have lp : ∀ (xs : List D) (l : List Int) (o4 o5 o6 o7 o8 o9 o10 o11 : Option D), ∃ l' ρ', loopL (mgName 4) m_law_sets_b2 xs (Es l n ps o4 o5 o6 o7 o8 o9 o10 o11) = .nx (some (dl l') :: ρ') := by
    intro xs
    induction xs with
    | nil => exact fun l o4 o5 o6 o7 o8 o9 o10 o11 => ⟨l, _, rfl⟩
    | cons x xs ih =>
      intro l o4 o5 o6 o7 o8 o9 o10 o11
      obtain ⟨l1, p5, p6, p7, p8, p9, p10, p11, b⟩ := sb2_go hp l (some x) o5 o6 o7 o8 o9 o10 o11
      obtain ⟨l', ρ', e⟩ := ih l1 (some x) p5 p6 p7 p8 p9 p10 p11
      exact ⟨l', ρ', by rw [loop_step (ρ1 := Es l n ps (some x) o5 o6 o7 o8 o9 o10 o11) rfl b, e]⟩
  obtain ⟨l', ρ', e⟩ := lp (([0, 1, 2] : List Nat).map fun i => D.int (i : Nat)) l none none none none none none none none
  have r3 := rg3
  have go : m_law_sets (Es l n ps none none none none none none none none) = .rt (.bl true) (some (dl l') :: ρ') := by
    unfold m_law_sets
    have e1 : (msFor (mItN gRange1 (mCons (mK (.int 3)) mNil)) (mgName 4) m_law_sets_b2) (Es l n ps none none none none none none none none) = .nx (some (dl l') :: ρ') := by
      clear lp
      unfold Es at *
      generalize ([0, 1, 2] : List Nat).map (fun i => D.int (i : Nat)) = RL at *
      generalize m_law_sets_b2 = B at *
      generalize PO n ps = P at *
      generalize D.lst (ps.map pl) = L at *
      simp -implicitDefEqProofs [r3, e, -gRange1_i]
    rw [seq_nx e1]
    rfl
  refine ⟨l', ?_⟩
  have := runM_rt (n := 12) (np := 4) (dd := []) (fr := false) (m := m_law_sets) (ds := [dl l, .int (n : Nat), .lst (ps.map pl), PO n ps]) rfl go
  exact this
end
end K30
namespace K30
open Q DL PySem PySem.Spec PyProof.Rows
section
variable {n : Nat} {ps : List (List Int)} {f g : List Nat}
theorem ixT {L : List (List Nat)} {k : Nat} (h : k < L.length) : gIx (lD L) (.int (k : Nat)) = some (tix (L.getD k [])) := by
  show L2.atI (L.map tix) (k : Int) = _
  rw [atI_nat' _ k (by rw [List.length_map]; exact h), List.getElem_map]
  simp [List.getD, h]
theorem web_is (hp : Pk n ps) : ∀ x ∈ webL n ps, isFl n ps x := fun x hx => by
  rw [web_eq hp.rows hp.row] at hx
  exact (webP_mem hp.rows hp.row).mp hx
theorem web_pos (hp : Pk n ps) : 0 < (webL n ps).length := by
  rw [web_eq hp.rows hp.row]
  exact List.length_pos_of_mem ((webP_mem hp.rows hp.row).mpr (fl_of (ks := []) hp.rows (fun _ h => absurd h List.not_mem_nil) Sp0.nil.met))
theorem web_len (hp : Pk n ps) : (webL n ps).length ≤ 64 := by
  rw [web_eq hp.rows hp.row]
  exact (webP_len hp).1
def bothL (f g : List Nat) : List Nat := f ++ g.filter fun x => !decide (x ∈ f)
theorem both_kk (hp : Pk n ps) (h : isFl n ps f) (h' : isFl n ps g) : Kk ps (bothL f g) := by
  have hk : ∀ k ∈ bothL f g, k < ps.length := fun k hk => (List.mem_append.mp hk).elim (h.1 k) fun z => h'.1 k (List.mem_filter.mp z).1
  refine ⟨hk, ?_⟩
  have l6 := hp.len
  have nd : (bothL f g).Nodup := List.nodup_append.mpr ⟨h.asc.imp (fun a => Nat.ne_of_lt a), (h'.asc.imp (fun a => Nat.ne_of_lt a)).filter _, fun a ha b hb e => by
    have := (List.mem_filter.mp hb).2
    rw [← e, decide_eq_true ha] at this
    cases this⟩
  have := nodup_le (m := List.range ps.length) nd fun x hx => List.mem_range.mpr (hk x hx)
  rw [List.length_range] at this
  omega
theorem both_rs (f g : List Nat) (v : Vc) : RsI (pickK ps (bothL f g)) v ↔ RsI (pickK ps (f ++ g)) v := by
  refine ⟨pick_sub fun k hk => ?_, pick_sub fun k hk => ?_⟩
  · exact (List.mem_append.mp hk).elim (List.mem_append_left _) fun z => List.mem_append_right _ (List.mem_filter.mp z).1
  · rcases List.mem_append.mp hk with z | z
    · exact List.mem_append_left _ z
    · by_cases c : k ∈ f
      · exact List.mem_append_left _ c
      · exact List.mem_append_right _ (List.mem_filter.mpr ⟨z, by rw [decide_eq_false c]; rfl⟩)
theorem both_same (hp : Pk n ps) (h : isFl n ps f) (h' : isFl n ps g) : metL n ps (f ++ g) = metL n ps (bothL f g) ∧ clL n ps (f ++ g) = clL n ps (bothL f g) := by
  have hk : ∀ k ∈ f ++ g, k < ps.length := fun k hk => (List.mem_append.mp hk).elim (h.1 k) (h'.1 k)
  have hb := (both_kk hp h h').lt
  refine ⟨?_, cl_same hp.rows hk hb fun v => (both_rs f g v).symm⟩
  rw [Bool.eq_iff_iff, met_iff hp.rows hk, met_iff hp.rows hb]
  exact met_same hp.rows fun v => (both_rs f g v).symm
def dueM (n : Nat) (ps : List (List Int)) (b : List Nat) : D := if metL n ps b = true then tix (clL n ps b) else .non
abbrev Ep (l : List Int) (n : Nat) (ps : List (List Int)) (W : D) (o5 o6 o7 o8 o9 o10 : Option D) : En := [some (dl l), some (.int (n : Nat)), some (.lst (ps.map pl)), some (PO n ps), some W, o5, o6, o7, o8, o9, o10]
theorem pk_go (hp : Pk n ps) (l : List Int) : ∃ k : Nat, k < (webL n ps).length ∧ gMod (.int (drawI l)) (.int ((webL n ps).length : Nat)) = some (.int (k : Nat)) := by
  have pos := web_pos hp
  obtain ⟨r1, r2⟩ := fm_rng (drawI l) (m := ((webL n ps).length : Int)) (by omega)
  have gm := gMod_p (drawI l) (m := ((webL n ps).length : Int)) (by omega)
  refine ⟨((drawI l).fmod ((webL n ps).length : Int)).toNat, by omega, ?_⟩
  rw [gm]
  congr 2
  omega
theorem getD_in {L : List (List Nat)} {k : Nat} (h : k < L.length) : L.getD k [] ∈ L := by
  rw [List.getD_eq_getElem?_getD, List.getElem?_eq_getElem h]
  exact List.getElem_mem h
theorem p1_go (hp : Pk n ps) (l : List Int) (o5 o6 o7 o8 o9 o10 : Option D) : ∃ f, isFl n ps f ∧ (msAsg (m2 gIx (mVar 4) (m2 gMod (mN gInt (mCons (mCallIo Q.F_law_next 0 mNil) mNil)) (mN gLen (mCons (mVar 4) mNil)))) (mgName 6)) (Ep l n ps (lD (webL n ps)) o5 o6 o7 o8 o9 o10) = .nx (Ep l.dropLast n ps (lD (webL n ps)) o5 (some (tix f)) o7 o8 o9 o10) := by
  obtain ⟨k, hk, gm⟩ := pk_go hp l
  refine ⟨(webL n ps).getD k [], web_is hp _ (getD_in hk), ?_⟩
  have ix := ixT hk
  have gl : gLen [lD (webL n ps)] = some (.int ((webL n ps).length : Nat)) := by simp [gLen, lD]
  unfold Ep
  generalize tix ((webL n ps).getD k []) = T at *
  generalize ((webL n ps).length : Int) = q at *
  generalize lD (webL n ps) = W at *
  generalize (k : Int) = ki at *
  generalize PO n ps = P at *
  generalize D.lst (ps.map pl) = L at *
  simp -implicitDefEqProofs [io_next, gl, gm, ix]
theorem p2_go (hp : Pk n ps) (l : List Int) (o5 o6 o7 o8 o9 o10 : Option D) : ∃ f, isFl n ps f ∧ (msAsg (m2 gIx (mVar 4) (m2 gMod (mN gInt (mCons (mCallIo Q.F_law_next 0 mNil) mNil)) (mN gLen (mCons (mVar 4) mNil)))) (mgName 7)) (Ep l n ps (lD (webL n ps)) o5 o6 o7 o8 o9 o10) = .nx (Ep l.dropLast n ps (lD (webL n ps)) o5 o6 (some (tix f)) o8 o9 o10) := by
  obtain ⟨k, hk, gm⟩ := pk_go hp l
  refine ⟨(webL n ps).getD k [], web_is hp _ (getD_in hk), ?_⟩
  have ix := ixT hk
  have gl : gLen [lD (webL n ps)] = some (.int ((webL n ps).length : Nat)) := by simp [gLen, lD]
  unfold Ep
  generalize tix ((webL n ps).getD k []) = T at *
  generalize ((webL n ps).length : Int) = q at *
  generalize lD (webL n ps) = W at *
  generalize (k : Int) = ki at *
  generalize PO n ps = P at *
  generalize D.lst (ps.map pl) = L at *
  simp -implicitDefEqProofs [io_next, gl, gm, ix]
theorem notin_tx (b : List Nat) (x : Nat) : gNotIn (.int (x : Nat)) (tix b) = some (.bl (!decide (x ∈ b))) := by
  have h := in_tx2 b x
  unfold gIn at h
  unfold gNotIn
  cases q : inD (.int (x : Nat)) (tix b) with
  | none => rw [q] at h; cases h
  | some k =>
    rw [q] at h
    have : k = decide (x ∈ b) := by simpa using h
    rw [this]
    rfl
theorem p3_go (hp : Pk n ps) (h : isFl n ps f) (h' : isFl n ps g) (l : List Int) (W : D) (o5 o8 o9 o10 : Option D) : (msAsg (m2 gAdd (mVar 6) (mN gTuple (mCons (mLc [9] (mIter (mVar 7)) (mgName 9) m_law_pairs_t0 (mVar 9)) mNil))) (mgName 8)) (Ep l n ps W o5 (some (tix f)) (some (tix g)) o8 o9 o10) = .nx (Ep l n ps W o5 (some (tix f)) (some (tix g)) (some (tix (bothL f g))) o9 o10) := by
  have sz := szv
  have l1 := h.len hp
  have l2 := h'.len hp
  have lc := mLc_filt (as := g) (enc := fun k => D.int (k : Nat)) (vs := [9]) (g := mgName 9) (mi := mIter (mVar 7)) (mt := m_law_pairs_t0) (me := mVar 9) (ρ0 := Ep l n ps W o5 (some (tix f)) (some (tix g)) o8 o9 o10) (ρ := Ep l n ps W o5 (some (tix f)) (some (tix g)) o8 o9 o10)
    (st := fun k => Ep l n ps W o5 (some (tix f)) (some (tix g)) o8 (some (.int (k : Nat))) o10) (f := fun k => .int (k : Nat)) (p := fun x => !decide (x ∈ f)) rfl (by omega) (fun _ => rfl) (fun _ _ => rfl) (fun k _ => by
      have ix := notin_tx f k
      unfold Ep
      generalize PO n ps = P at *
      generalize D.lst (ps.map pl) = L at *
      generalize tix f = F at *
      generalize tix g = G at *
      simp -implicitDefEqProofs [m_law_pairs_t0, ix]) (fun _ _ _ => rfl)
  have gt : gTuple [.lst ((g.filter fun x => !decide (x ∈ f)).map fun k => D.int (k : Nat))] = some (tix (g.filter fun x => !decide (x ∈ f))) := rfl
  have fl := List.length_filter_le (fun x => !decide (x ∈ f)) g
  have ad := add_tix (a := f) (b := g.filter fun x => !decide (x ∈ f)) (by omega)
  have eb : f ++ g.filter (fun x => !decide (x ∈ f)) = bothL f g := rfl
  rw [eb] at ad
  generalize mLc [9] (mIter (mVar 7)) (mgName 9) m_law_pairs_t0 (mVar 9) = M at *
  unfold Ep at *
  generalize tix (bothL f g) = B at *
  generalize D.lst ((g.filter fun x => !decide (x ∈ f)).map fun k => D.int (k : Nat)) = Y at *
  generalize tix (g.filter fun x => !decide (x ∈ f)) = Z at *
  generalize PO n ps = P at *
  generalize D.lst (ps.map pl) = L at *
  generalize tix f = F at *
  generalize tix g = G at *
  simp -implicitDefEqProofs [lc, gt, ad]
theorem p5_go (hp : Pk n ps) {b : List Nat} (hb : Kk ps b) (l : List Int) (W : D) (o5 o6 o7 o9 : Option D) : (msIf (mTru (mCall Q.F_law_is_met (mCons (mVar 1) (mCons (mVar 2) (mCons (mVar 8) mNil))))) (msAsg (mCall Q.F_law_closed (mCons (mVar 1) (mCons (mVar 2) (mCons (mVar 8) mNil)))) (mgName 10)) msNil) (Ep l n ps W o5 o6 o7 (some (tix b)) o9 (some .non)) = .nx (Ep l n ps W o5 o6 o7 (some (tix b)) o9 (some (dueM n ps b))) := by
  have v1 := fun ρ => v_lmetS hp hb (IxS.tix b) ρ
  have v2 := fun ρ => v_lclosedS hp hb.lt hb.len (IxS.tix b) ρ
  unfold dueM
  cases c : metL n ps b with
  | true =>
    rw [c] at v1
    simp only [if_true]
    unfold Ep
    generalize tix (clL n ps b) = Z at *
    generalize tix b = T at *
    generalize PO n ps = P at *
    generalize D.lst (ps.map pl) = L at *
    generalize (n : Int) = nn at *
    simp -implicitDefEqProofs [mCall_R, v1, v2]
  | false =>
    rw [c] at v1
    simp only [Bool.false_eq_true, if_false]
    unfold Ep
    generalize tix b = T at *
    generalize PO n ps = P at *
    generalize D.lst (ps.map pl) = L at *
    generalize (n : Int) = nn at *
    simp -implicitDefEqProofs [mCall_R, v1]
theorem p6_go (hp : Pk n ps) (h : isFl n ps f) (h' : isFl n ps g) (l : List Int) (W : D) (o5 o8 o9 o10 : Option D) : (msIf (mTest (m2 gNe (mN gRepr (mCons (mCall F_law_told (mCons (mK (.int 4)) (mCons (mVar 3) (mCons (mVar 6) (mCons (mVar 7) mNil))))) mNil)) (mN gRepr (mCons (mN gTuple (mCons (mLc [9] (mIter (mVar 6)) (mgName 9) m_law_pairs_t1 (mVar 9)) mNil)) mNil)))) (msRet (mK (.bl false))) msNil) (Ep l n ps W o5 (some (tix f)) (some (tix g)) o8 o9 o10) = .nx (Ep l n ps W o5 (some (tix f)) (some (tix g)) o8 o9 o10) := by
  have sz := szv
  have l1 := h.len hp
  have l6 := hp.len
  have t := fun ρ => t_4 hp h h' ρ
  have lc := mLc_filt (as := f) (enc := fun k => D.int (k : Nat)) (vs := [9]) (g := mgName 9) (mi := mIter (mVar 6)) (mt := m_law_pairs_t1) (me := mVar 9) (ρ0 := Ep l n ps W o5 (some (tix f)) (some (tix g)) o8 o9 o10) (ρ := Ep l n ps W o5 (some (tix f)) (some (tix g)) o8 o9 o10)
    (st := fun k => Ep l n ps W o5 (some (tix f)) (some (tix g)) o8 (some (.int (k : Nat))) o10) (f := fun k => .int (k : Nat)) (p := fun x => decide (x ∈ g)) rfl (by omega) (fun _ => rfl) (fun _ _ => rfl) (fun k _ => by
      have ix := in_tx2 g k
      unfold Ep
      generalize PO n ps = P at *
      generalize D.lst (ps.map pl) = L at *
      generalize tix f = F at *
      generalize tix g = G at *
      simp -implicitDefEqProofs [m_law_pairs_t1, ix]) (fun _ _ _ => rfl)
  have gt : gTuple [.lst ((f.filter fun x => decide (x ∈ g)).map fun k => D.int (k : Nat))] = some (tix (f.filter fun x => decide (x ∈ g))) := rfl
  have fl := List.length_filter_le (fun x => decide (x ∈ g)) f
  obtain ⟨z, r⟩ := repr_tix (a := f.filter fun x => decide (x ∈ g)) (by omega) fun x hx => by have := h.1 x (List.mem_filter.mp hx).1; omega
  have ns := neS_self z
  generalize mLc [9] (mIter (mVar 6)) (mgName 9) m_law_pairs_t1 (mVar 9) = M at *
  unfold Ep at *
  generalize D.lst ((f.filter fun x => decide (x ∈ g)).map fun k => D.int (k : Nat)) = Y at *
  generalize tix (f.filter fun x => decide (x ∈ g)) = Z at *
  generalize PO n ps = P at *
  generalize D.lst (ps.map pl) = L at *
  generalize tix f = F at *
  generalize tix g = G at *
  generalize F_law_told = FT at *
  simp -implicitDefEqProofs [mCall_R, t, lc, gt, r, ns]
theorem p7_go (hp : Pk n ps) (h : isFl n ps f) (h' : isFl n ps g) (l : List Int) (W : D) (o5 o8 o9 : Option D) : (msIf (mTest (m2 gNe (mN gRepr (mCons (mCall F_law_told (mCons (mK (.int 5)) (mCons (mVar 3) (mCons (mVar 6) (mCons (mVar 7) mNil))))) mNil)) (mN gRepr (mCons (mVar 10) mNil)))) (msRet (mK (.bl false))) msNil) (Ep l n ps W o5 (some (tix f)) (some (tix g)) o8 o9 (some (dueM n ps (bothL f g)))) = .nx (Ep l n ps W o5 (some (tix f)) (some (tix g)) o8 o9 (some (dueM n ps (bothL f g)))) := by
  have l6 := hp.len
  have t := fun ρ => t_5 hp h h' ρ
  obtain ⟨e1, e2⟩ := both_same hp h h'
  rw [e1, e2] at t
  have ed : (if metL n ps (bothL f g) = true then tix (clL n ps (bothL f g)) else .non) = dueM n ps (bothL f g) := rfl
  rw [ed] at t
  obtain ⟨z, r⟩ : ∃ z, gRepr [dueM n ps (bothL f g)] = some (.str z) := by
    unfold dueM
    split
    · have := (subs_mem (subs_filter (fun k => decide (rankL (n + 1) (pickK ps (bothL f g) ++ [ps.getD k []]) = rankL (n + 1) (pickK ps (bothL f g)))) ps.length)).1
      exact repr_tix (by unfold clL; omega) fun x hx => by have := cl_lt x hx; omega
    · exact repr_non
  have ns := neS_self z
  unfold Ep
  generalize dueM n ps (bothL f g) = DM at *
  generalize PO n ps = P at *
  generalize D.lst (ps.map pl) = L at *
  generalize tix f = F at *
  generalize tix g = G at *
  generalize F_law_told = FT at *
  simp -implicitDefEqProofs [mCall_R, t, r, ns]
theorem p8_go (hp : Pk n ps) (h : isFl n ps f) (l : List Int) (W : D) (o5 o7 o8 o9 o10 : Option D) (c : D) (h7 : o7 = some c) : (msIf (mTest (m2 gNe (mN gRepr (mCons (mCall F_law_told (mCons (mK (.int 3)) (mCons (mVar 3) (mCons (mVar 6) (mCons (mVar 7) mNil))))) mNil)) (mN gRepr (mCons (m2 gSub (mVar 1) (mCall Q.F_law_rank (mCons (mCall Q.F_law_chosen (mCons (mVar 2) (mCons (mVar 6) mNil))) (mCons (mVar 1) mNil)))) mNil)))) (msRet (mK (.bl false))) msNil) (Ep l n ps W o5 (some (tix f)) o7 o8 o9 o10) = .nx (Ep l n ps W o5 (some (tix f)) o7 o8 o9 o10) := by
  subst h7
  have kk := h.kk hp
  have kl := kk.len
  have n3 := hp.n3
  have t := fun ρ => t_3 (c := c) hp h ρ
  have v2 := fun ρ => v_lchosenS (IxS.tix f) kk.lt (by omega) ρ
  have v3 := fun ρ => v_lrk hp (Sq.lst ((pickK ps f).map pl)) (Kk.pick hp kk) (by rw [pick_len]; omega) (Nat.le_succ n) ρ
  have rn := rank_n hp.rows kk.lt
  obtain ⟨z, r⟩ := repr_int (a := (n : Int) - (rankL n (pickK ps f) : Nat)) (by omega)
  have g : gSub (.int (n : Int)) (.int (rankL n (pickK ps f) : Nat)) = some (.int ((n : Int) - (rankL n (pickK ps f) : Nat))) := rfl
  have ns := neS_self z
  unfold Ep
  generalize (n : Int) - (rankL n (pickK ps f) : Nat) = df at *
  generalize (rankL n (pickK ps f) : Int) = rk at *
  generalize D.lst ((pickK ps f).map pl) = X at *
  generalize PO n ps = P at *
  generalize D.lst (ps.map pl) = L at *
  generalize tix f = F at *
  generalize (n : Int) = nn at *
  generalize F_law_told = FT at *
  simp -implicitDefEqProofs [mCall_R, t, v2, v3, g, r, ns]
theorem pb2_go (hp : Pk n ps) (l : List Int) (o5 o6 o7 o8 o9 o10 : Option D) : ∃ l' o6' o7' o8' o10', m_law_pairs_b2 (Ep l n ps (lD (webL n ps)) o5 o6 o7 o8 o9 o10) = .nx (Ep l' n ps (lD (webL n ps)) o5 o6' o7' o8' o9 o10') := by
  obtain ⟨f, hf, e1⟩ := p1_go hp l o5 o6 o7 o8 o9 o10
  obtain ⟨g, hg, e2⟩ := p2_go hp l.dropLast o5 (some (tix f)) o7 o8 o9 o10
  have e3 := p3_go hp hf hg l.dropLast.dropLast (lD (webL n ps)) o5 o8 o9 o10
  have e4 : (msAsg (mK .non) (mgName 10)) (Ep l.dropLast.dropLast n ps (lD (webL n ps)) o5 (some (tix f)) (some (tix g)) (some (tix (bothL f g))) o9 o10) = .nx (Ep l.dropLast.dropLast n ps (lD (webL n ps)) o5 (some (tix f)) (some (tix g)) (some (tix (bothL f g))) o9 (some .non)) := rfl
  have e5 := p5_go hp (both_kk hp hf hg) l.dropLast.dropLast (lD (webL n ps)) o5 (some (tix f)) (some (tix g)) o9
  have e6 := p6_go hp hf hg l.dropLast.dropLast (lD (webL n ps)) o5 (some (tix (bothL f g))) o9 (some (dueM n ps (bothL f g)))
  have e7 := p7_go hp hf hg l.dropLast.dropLast (lD (webL n ps)) o5 (some (tix (bothL f g))) o9
  have e8 := p8_go hp hf l.dropLast.dropLast (lD (webL n ps)) o5 (some (tix g)) (some (tix (bothL f g))) o9 (some (dueM n ps (bothL f g))) (tix g) rfl
  refine ⟨l.dropLast.dropLast, some (tix f), some (tix g), some (tix (bothL f g)), some (dueM n ps (bothL f g)), ?_⟩
  unfold m_law_pairs_b2
  rw [seq_nx e1, seq_nx e2, seq_nx e3, seq_nx e4, seq_nx e5, seq_nx e6, seq_nx e7, e8]
theorem v_lpairs (hp : Pk n ps) (l : List Int) : ∃ l', F_law_pairs [dl l, .int (n : Nat), .lst (ps.map pl), PO n ps, lD (webL n ps)] = .rt (.bl true) (dl l') := by
  have lp : ∀ (xs : List D) (l : List Int) (o5 o6 o7 o8 o9 o10 : Option D), ∃ l' ρ', loopL (mgName 5) m_law_pairs_b2 xs (Ep l n ps (lD (webL n ps)) o5 o6 o7 o8 o9 o10) = .nx (some (dl l') :: ρ') := by
    intro xs
    induction xs with
    | nil => exact fun l o5 o6 o7 o8 o9 o10 => ⟨l, _, rfl⟩
    | cons x xs ih =>
      intro l o5 o6 o7 o8 o9 o10
      obtain ⟨l1, p6, p7, p8, p10, b⟩ := pb2_go hp l (some x) o6 o7 o8 o9 o10
      obtain ⟨l', ρ', e⟩ := ih l1 (some x) p6 p7 p8 o9 p10
      exact ⟨l', ρ', by rw [loop_step (ρ1 := Ep l n ps (lD (webL n ps)) (some x) o6 o7 o8 o9 o10) rfl b, e]⟩
  obtain ⟨l', ρ', e⟩ := lp (([0, 1, 2] : List Nat).map fun i => D.int (i : Nat)) l none none none none none none
  have r3 := rg3
  have go : m_law_pairs (Ep l n ps (lD (webL n ps)) none none none none none none) = .rt (.bl true) (some (dl l') :: ρ') := by
    unfold m_law_pairs
    have e1 : (msFor (mItN gRange1 (mCons (mK (.int 3)) mNil)) (mgName 5) m_law_pairs_b2) (Ep l n ps (lD (webL n ps)) none none none none none none) = .nx (some (dl l') :: ρ') := by
      clear lp
      unfold Ep at *
      generalize ([0, 1, 2] : List Nat).map (fun i => D.int (i : Nat)) = RL at *
      generalize m_law_pairs_b2 = B at *
      generalize lD (webL n ps) = W at *
      generalize PO n ps = P at *
      generalize D.lst (ps.map pl) = L at *
      simp -implicitDefEqProofs [r3, e, -gRange1_i]
    rw [seq_nx e1]
    rfl
  refine ⟨l', ?_⟩
  have := runM_rt (n := 11) (np := 5) (dd := []) (fr := false) (m := m_law_pairs) (ds := [dl l, .int (n : Nat), .lst (ps.map pl), PO n ps, lD (webL n ps)]) rfl go
  exact this
end
end K30
namespace K30
open Q DL PySem PySem.Spec PyProof.Rows
section
variable {n : Nat} {ps : List (List Int)} {S : D}
theorem mk_po {n : Nat} {ps : List (List Int)} (h : okPls n ps = true) (h1 : 1 ≤ n) (h4 : n ≤ 4) {d : D} (hd : Sq d (ps.map pl)) {args : MA} {ρ ρ1 : En} (ha : args ρ = .ok [.int (n : Nat), d] ρ1) : mMake "Planes" Q.FPlanes_init args ρ = .ok (PO n ps) ρ1 := by
  rw [v_make hd (sm_ok h (by omega)) ha, if_pos ⟨by omega, by omega⟩, Int.toNat_natCast, if_pos h]
abbrev Em (S dr : D) (n : Nat) (R P : D) (o5 o6 o7 o8 o9 : Option D) : En := [some S, some dr, some (.int (n : Nat)), some R, some P, o5, o6, o7, o8, o9]
theorem repr_web (hp : Pk n ps) : ∃ z, gRepr [lD (webL n ps)] = some (.str z) := by
  have l6 := hp.len
  have wl := web_len hp
  have s : Sb 8000 3 (.lst ((webL n ps).map tix)) := Sb.lst (W := 6) (n := 2) (fun d hd => by
    obtain ⟨a, ha, rfl⟩ := List.mem_map.mp hd
    have fl := web_is hp a ha
    exact Sb.tup (W := 0) (n := 1) (fun d hd => by
      obtain ⟨x, hx, rfl⟩ := List.mem_map.mp hd
      have := fl.1 x hx
      exact Sb.int (Nat.lt_of_lt_of_le (show ((x : Nat) : Int).natAbs < 2 ^ 7 by omega) (Nat.pow_le_pow_right (by decide) (by decide)))) (by rw [List.length_map]; have := fl.len hp; omega)) (by rw [List.length_map]; omega)
  exact s.shown (by decide) (by decide)
theorem a6_go (hp : Pk n ps) (dr R : D) (o7 o8 o9 : Option D) : mlaw_s6 (Em S dr n R (PO n ps) (some (lD (webL n ps))) none o7 o8 o9) = .nx (Em S dr n R (PO n ps) (some (lD (webL n ps))) none o7 o8 o9) := by
  have sz := szv
  have wl := web_len hp
  have v := fun ρ => v_web hp ρ
  rw [← web_eq hp.rows hp.row] at v
  obtain ⟨z, r⟩ := repr_web hp
  have ns := neS_self z
  have lc := mLc_map (as := webL n ps) (enc := tix) (vs := [6]) (g := mgName 6) (mi := mIter (mVar 5)) (me := mlaw_e5) (ρ0 := Em S dr n R (PO n ps) (some (lD (webL n ps))) none o7 o8 o9) (ρ := Em S dr n R (PO n ps) (some (lD (webL n ps))) none o7 o8 o9)
    (st := fun f => Em S dr n R (PO n ps) (some (lD (webL n ps))) (some (tix f)) o7 o8 o9) (f := fun _ => .bl true) rfl (by omega) (fun _ => rfl) (fun _ _ => rfl) (fun f hf => by
      have v1 := fun ρ => v_isFl hp (web_is hp f hf) ρ
      have gi : gIs (.bl true) (.bl true) = some (.bl true) := rfl
      unfold Em
      generalize tix f = T at *
      generalize lD (webL n ps) = W at *
      generalize PO n ps = P at *
      simp -implicitDefEqProofs [mlaw_e5, mCall_R, v1, gi])
  have ga := gAll_true (fun _ : List Nat => true) (webL n ps) (fun _ _ => rfl)
  unfold mlaw_s6
  generalize mLc [6] (mIter (mVar 5)) (mgName 6) mYes mlaw_e5 = M at *
  unfold Em at *
  generalize D.lst ((webL n ps).map fun _ => D.bl true) = X at *
  generalize lD (webL n ps) = W at *
  generalize PO n ps = P at *
  simp -implicitDefEqProofs [mCall_R, v, r, ns, lc, ga]
theorem a7_go (hp : Pk n ps) (l : List Int) (o6 o7 o8 o9 : Option D) : ∃ l', mlaw_s7 (Em S (dl l) n (.lst (ps.map pl)) (PO n ps) (some (lD (webL n ps))) o6 o7 o8 o9) = .nx (Em S (dl l') n (.lst (ps.map pl)) (PO n ps) (some (lD (webL n ps))) o6 o7 o8 o9) := by
  obtain ⟨l1, e1⟩ := v_lsets hp l
  obtain ⟨l2, e2⟩ := v_lpairs hp l1
  refine ⟨l2, ?_⟩
  have i1 := io_1a (x := some S) (l := l) (l' := l1) (F := F_law_sets) (r := [some (.int (n : Nat)), some (.lst (ps.map pl)), some (PO n ps), some (lD (webL n ps)), o6, o7, o8, o9]) (args := mCons (mVar 2) (mCons (mVar 3) (mCons (mVar 4) mNil))) (ds := [.int (n : Nat), .lst (ps.map pl), PO n ps]) rfl e1
  have i2 := io_1a (x := some S) (l := l1) (l' := l2) (F := F_law_pairs) (r := [some (.int (n : Nat)), some (.lst (ps.map pl)), some (PO n ps), some (lD (webL n ps)), o6, o7, o8, o9]) (args := mCons (mVar 2) (mCons (mVar 3) (mCons (mVar 4) (mCons (mVar 5) mNil)))) (ds := [.int (n : Nat), .lst (ps.map pl), PO n ps, lD (webL n ps)]) rfl e2
  unfold mlaw_s7
  generalize mCallIo F_law_sets 1 (mCons (mVar 2) (mCons (mVar 3) (mCons (mVar 4) mNil))) = M1 at *
  generalize mCallIo F_law_pairs 1 (mCons (mVar 2) (mCons (mVar 3) (mCons (mVar 4) (mCons (mVar 5) mNil)))) = M2 at *
  unfold Em
  clear e1 e2
  generalize lD (webL n ps) = W at *
  generalize PO n ps = P at *
  generalize D.lst (ps.map pl) = L at *
  generalize dl l = D0 at *
  generalize dl l1 = D1 at *
  generalize dl l2 = D2 at *
  simp -implicitDefEqProofs [i1, i2]
def strA (c : Nat) : Nat → List Int
  | 0 => [c]
  | 1 => [-1]
  | 2 => [1, 0]
  | 3 => [0, 0]
  | _ => [0, 12]
theorem str_bad (hp : Pk n ps) (k : Nat) : (strA ps.length k).length ≤ 100 ∧ (ascBA (strA ps.length k) && inRA ps.length (strA ps.length k)) = false := by
  have l6 := hp.len
  match k with
  | 0 => refine ⟨by simp [strA], ?_⟩; simp [strA, inRA]
  | 1 => exact ⟨by simp [strA], by simp [strA, inRA]⟩
  | 2 => exact ⟨by simp [strA], by rw [show ascBA (strA ps.length 2) = false from rfl]; rfl⟩
  | 3 => exact ⟨by simp [strA], by rw [show ascBA (strA ps.length 3) = false from rfl]; rfl⟩
  | k + 4 => refine ⟨by simp [strA], ?_⟩; simp [strA, inRA]; omega
theorem a8_go (l : List Int) (P W : D) (hl : ps.length ≤ 100) (o6 o7 o8 o9 : Option D) : ∃ k, mlaw_s8 (Em S (dl l) n (.lst (ps.map pl)) P (some W) o6 o7 o8 o9) = .nx (Em S (dl l.dropLast) n (.lst (ps.map pl)) P (some W) o6 (some (ixA (strA ps.length k))) o8 o9) := by
  have sz := szv
  obtain ⟨r1, r2⟩ := fm_rng (drawI l) (m := 5) (by decide)
  obtain ⟨m, hm⟩ : ∃ m : Nat, (drawI l).fmod 5 = (m : Int) := ⟨((drawI l).fmod 5).toNat, by omega⟩
  have gm := gMod_p (drawI l) (m := 5) (by decide)
  rw [hm] at gm
  refine ⟨m, ?_⟩
  have gl : gLen [.lst (ps.map pl)] = some (.int (ps.length : Nat)) := by simp [gLen]
  have ix : gIx (.lst [.tup [.int (ps.length : Nat)], .tup [.int (-1)], .tup [.int 1, .int 0], .tup [.int 0, .int 0], .tup [.int 0, .int 12]]) (.int (m : Nat)) = some (ixA (strA ps.length m)) := by
    have : m < 5 := by omega
    match m, this with
    | 0, _ => rfl
    | 1, _ => rfl
    | 2, _ => rfl
    | 3, _ => rfl
    | 4, _ => rfl
  unfold mlaw_s8 Em
  generalize ixA (strA ps.length m) = X at *
  generalize (m : Int) = mi at *
  generalize (ps.length : Int) = q at *
  generalize D.lst (ps.map pl) = L at *
  simp -implicitDefEqProofs [io_next1, gl, gm, ix, show 1 ≤ sizeLine by omega, show 2 ≤ sizeLine by omega, show 5 ≤ sizeLine by omega]
theorem nil_fl (hp : Pk n ps) : ∃ b, ∀ ρ, (Q.Fis_flat_v2 [PO n ps, .tup []]).R ρ = .ok (.bl b) ρ := ⟨_, fun ρ => v_isFlA (ks := []) hp (fun _ h => absurd h List.not_mem_nil) (by simp) ρ⟩
theorem a9_go (hp : Pk n ps) (k : Nat) (dr R : D) (o5 o6 o8 o9 : Option D) : mlaw_s9 (Em S dr n R (PO n ps) o5 o6 (some (ixA (strA ps.length k))) o8 o9) = .nx (Em S dr n R (PO n ps) o5 o6 (some (ixA (strA ps.length k))) o8 o9) := by
  obtain ⟨h1, h2⟩ := str_bad hp k
  have v := fun ρ => v_isFlatN hp h1 h2 ρ
  have t := fun ρ => t_3n (c := .tup []) v ρ
  have gi : gIsNot (.bl false) (.bl false) = some (.bl false) := rfl
  have ns := neS_self "!flat"
  unfold mlaw_s9 Em
  generalize ixA (strA ps.length k) = X at *
  generalize PO n ps = P at *
  generalize F_law_told = FT at *
  simp -implicitDefEqProofs [mCall_R, v, t, gi, ns]
theorem a10_go (hp : Pk n ps) (k : Nat) (dr R : D) (o5 o6 o8 o9 : Option D) : mlaw_s10 (Em S dr n R (PO n ps) o5 o6 (some (ixA (strA ps.length k))) o8 o9) = .nx (Em S dr n R (PO n ps) o5 o6 (some (ixA (strA ps.length k))) o8 o9) := by
  obtain ⟨h1, h2⟩ := str_bad hp k
  have v := fun ρ => v_isFlatN hp h1 h2 ρ
  obtain ⟨b, vn⟩ := nil_fl hp
  have t4 := fun ρ => t_4n vn v ρ
  have t5 := fun ρ => t_5n (c := ixA (strA ps.length k)) v ρ
  have ns := neS_self "!flat"
  unfold mlaw_s10 Em
  generalize ixA (strA ps.length k) = X at *
  generalize PO n ps = P at *
  generalize F_law_told = FT at *
  simp -implicitDefEqProofs [mCall_R, t4, t5, ns]
theorem b12_go (hp : Pk n ps) {a : Int} (ha : inRA ps.length [a] = false) (dr R : D) (o5 o6 o7 : Option D) : mlaw_b12 (Em S dr n R (PO n ps) o5 o6 o7 (some (.int a)) none) = .nx (Em S dr n R (PO n ps) o5 o6 o7 (some (.int a)) none) := by
  have sz := szv
  have r3 := rg3
  have lc := mLc_map (as := ([0, 1, 2] : List Nat)) (enc := fun i => D.int (i : Nat)) (vs := [9]) (g := mgName 9) (mi := mItN gRange1 (mCons (mK (.int 3)) mNil)) (me := mlaw_e11) (ρ0 := Em S dr n R (PO n ps) o5 o6 o7 (some (.int a)) none) (ρ := Em S dr n R (PO n ps) o5 o6 o7 (some (.int a)) none)
    (st := fun w => Em S dr n R (PO n ps) o5 o6 o7 (some (.int a)) (some (.int (w : Nat)))) (f := fun _ => .bl true) (by
      generalize ([0, 1, 2] : List Nat).map (fun i => D.int (i : Nat)) = RL at *
      generalize PO n ps = P at *
      simp -implicitDefEqProofs [r3, -gRange1_i]) (by rw [sz]; decide) (fun _ => rfl) (fun _ _ => rfl) (fun w hw => by
      have hw3 : w < 3 := by
        simp only [List.mem_cons, List.not_mem_nil, or_false] at hw
        omega
      have t := fun ρ => t_bad (c := .tup []) hp (Sq.lst ([a].map .int)) ha hw3 ρ
      have t : ∀ ρ, (F_law_told [.int (w : Nat), PO n ps, .lst [.int a], .tup []]).R ρ = .ok (.str "!number") ρ := t
      have ge := eqS_self "!number"
      unfold mlaw_e11 Em
      generalize PO n ps = P at *
      generalize D.int (w : Nat) = wi at *
      generalize F_law_told = FT at *
      simp -implicitDefEqProofs [mCall_R, t, ge, show 1 ≤ sizeLine by omega])
  have ga := gAll_true (fun _ : Nat => true) [0, 1, 2] (fun _ _ => rfl)
  unfold mlaw_b12
  generalize mLc [9] (mItN gRange1 (mCons (mK (.int 3)) mNil)) (mgName 9) mYes mlaw_e11 = M at *
  unfold Em at *
  generalize D.lst (([0, 1, 2] : List Nat).map fun _ => D.bl true) = X at *
  generalize PO n ps = P at *
  simp -implicitDefEqProofs [lc, ga]
theorem a13_go (hp : Pk n ps) (dr : D) (o5 o6 o7 o8 : Option D) : ∃ o8', mlaw_s13 (Em S dr n (.lst (ps.map pl)) (PO n ps) o5 o6 o7 o8 none) = .nx (Em S dr n (.lst (ps.map pl)) (PO n ps) o5 o6 o7 o8' none) := by
  have sz := szv
  have b1 := b12_go (S := S) (a := -1) hp (by simp [inRA]) dr (.lst (ps.map pl)) o5 o6 o7
  have b2 := b12_go (S := S) (a := (ps.length : Int)) hp (by simp [inRA]) dr (.lst (ps.map pl)) o5 o6 o7
  have gl : gLen [.lst (ps.map pl)] = some (.int (ps.length : Nat)) := by simp [gLen]
  refine ⟨some (.int (ps.length : Nat)), ?_⟩
  have lp : loopL (mgName 8) mlaw_b12 [.int (-1), .int (ps.length : Nat)] (Em S dr n (.lst (ps.map pl)) (PO n ps) o5 o6 o7 o8 none) = .nx (Em S dr n (.lst (ps.map pl)) (PO n ps) o5 o6 o7 (some (.int (ps.length : Nat))) none) := by
    rw [loop_step (ρ1 := Em S dr n (.lst (ps.map pl)) (PO n ps) o5 o6 o7 (some (.int (-1))) none) rfl b1, loop_step (ρ1 := Em S dr n (.lst (ps.map pl)) (PO n ps) o5 o6 o7 (some (.int (ps.length : Nat))) none) rfl b2]
    rfl
  have gi : gIter (.lst [.int (-1), .int (ps.length : Nat)]) = some [.int (-1), .int (ps.length : Nat)] := rfl
  clear b1 b2
  unfold mlaw_s13
  unfold Em at *
  generalize mlaw_b12 = B at *
  generalize PO n ps = P at *
  generalize (ps.length : Int) = q at *
  generalize D.lst (ps.map pl) = L at *
  simp -implicitDefEqProofs [gl, gi, lp, show 2 ≤ sizeLine by omega]
theorem law_true : ∀ zs : List Int, zs.length ≤ 63 → ∃ o, Flaw [.scr (zs.map D.int)] = .rt (.bl true) o := by
  intro zs hz
  have sz := szv
  obtain ⟨l0, _, e0⟩ := qDraws2 zs hz
  suffices h : ∃ ρ', mlaw (pad 10 [.scr (zs.map D.int)]) = .rt (.bl true) ρ' by
    obtain ⟨ρ', h⟩ := h
    exact ⟨_, runM_rt (ds := [.scr (zs.map D.int)]) (np := 1) (dd := []) rfl h⟩
  generalize hS : D.scr (zs.map D.int) = S at *
  have a0 : mlaw_s0 [some S, none, none, none, none, none, none, none, none, none] = .nx [some S, some (dl l0), none, none, none, none, none, none, none, none] := by
    simp -implicitDefEqProofs [mlaw_s0, mCall_R, e0]
  obtain ⟨x1, x2⟩ := fm_rng (drawI l0) (m := 3) (by decide)
  obtain ⟨n, hn⟩ : ∃ n : Nat, 1 + (drawI l0).fmod 3 = (n : Int) := ⟨(1 + (drawI l0).fmod 3).toNat, by omega⟩
  have n1 : 1 ≤ n := by omega
  have n3 : n ≤ 3 := by omega
  have a1 : mlaw_s1 [some S, some (dl l0), none, none, none, none, none, none, none, none] = .nx [some S, some (dl l0.dropLast), some (.int (n : Nat)), none, none, none, none, none, none, none] := by
    rw [← hn]
    simp -implicitDefEqProofs [mlaw_s1, io_next1, gMod_p]
  generalize l0.dropLast = l1 at a1
  obtain ⟨ps, l2, e2, hp, ok⟩ := v_lrows (most := 6) n1 n3 (by decide) l1
  have a2 : mlaw_s2 [some S, some (dl l1), some (.int (n : Nat)), none, none, none, none, none, none, none] = .nx [some S, some (dl l2), some (.int (n : Nat)), some (.lst (ps.map pl)), none, none, none, none, none, none] := by
    have io := io_1a (x := some S) (l := l1) (l' := l2) (F := Q.F_law_rows) (r := [some (.int (n : Nat)), none, none, none, none, none, none, none]) (args := mCons (mVar 2) (mCons (mK (.int 6)) mNil)) (ds := [.int (n : Nat), .int (6 : Nat)]) rfl e2
    generalize D.lst (ps.map pl) = L at *
    generalize dl l1 = D1 at *
    generalize dl l2 = D2 at *
    unfold mlaw_s2
    generalize mCallIo Q.F_law_rows 1 (mCons (mVar 2) (mCons (mK (.int 6)) mNil)) = M at *
    simp -implicitDefEqProofs [io]
  have a3 : mlaw_s3 [some S, some (dl l2), some (.int (n : Nat)), some (.lst (ps.map pl)), none, none, none, none, none, none] = .nx (Em S (dl l2) n (.lst (ps.map pl)) (PO n ps) none none none none none) := by
    have mk := mk_po ok n1 (by omega) (Sq.lst (ps.map pl)) (args := mCons (mVar 2) (mCons (mVar 3) mNil)) (ρ := [some S, some (dl l2), some (.int (n : Nat)), some (.lst (ps.map pl)), none, none, none, none, none, none]) (ρ1 := [some S, some (dl l2), some (.int (n : Nat)), some (.lst (ps.map pl)), none, none, none, none, none, none]) rfl
    generalize D.lst (ps.map pl) = L at *
    generalize PO n ps = P at *
    generalize dl l2 = D2 at *
    unfold mlaw_s3
    generalize mMake "Planes" Q.FPlanes_init (mCons (mVar 2) (mCons (mVar 3) mNil)) = M at *
    simp -implicitDefEqProofs [mk]
  have a4 : mlaw_s4 (Em S (dl l2) n (.lst (ps.map pl)) (PO n ps) none none none none none) = .nx (Em S (dl l2) n (.lst (ps.map pl)) (PO n ps) (some (lD (webL n ps))) none none none none) := by
    have v := fun ρ => v_lweb hp ρ
    unfold Em
    generalize lD (webL n ps) = C at *
    generalize D.lst (ps.map pl) = L at *
    generalize PO n ps = P at *
    generalize (n : Int) = nn at *
    simp -implicitDefEqProofs [mlaw_s4, mCall_R, v]
  have a6 := a6_go (S := S) hp (dl l2) (.lst (ps.map pl)) none none none
  obtain ⟨l3, a7⟩ := a7_go (S := S) hp l2 none none none none
  obtain ⟨k, a8⟩ := a8_go (S := S) (n := n) (ps := ps) l3 (PO n ps) (lD (webL n ps)) (by have := hp.len; omega) none none none none
  have a9 := a9_go (S := S) hp k (dl l3.dropLast) (.lst (ps.map pl)) (some (lD (webL n ps))) none none none
  have a10 := a10_go (S := S) hp k (dl l3.dropLast) (.lst (ps.map pl)) (some (lD (webL n ps))) none none none
  obtain ⟨o8, a13⟩ := a13_go (S := S) hp (dl l3.dropLast) (some (lD (webL n ps))) none (some (ixA (strA ps.length k))) none
  refine ⟨Em S (dl l3.dropLast) n (.lst (ps.map pl)) (PO n ps) (some (lD (webL n ps))) none (some (ixA (strA ps.length k))) o8 none, ?_⟩
  unfold mlaw
  have p0 : pad 10 [S] = [some S, none, none, none, none, none, none, none, none, none] := rfl
  rw [p0, msForget_ap]
  have w1 : [some S, none, none, none, none, none, none, none, none, none].set 1 none = [some S, none, none, none, none, none, none, none, none, none] := rfl
  rw [w1, seq_nx a0, seq_nx a1, seq_nx a2, seq_nx a3, seq_nx a4, seq_nx a6, seq_nx a7, seq_nx a8, seq_nx a9, seq_nx a10, seq_nx a13]
  rfl
end
end K30
namespace K30
open DL L2 PySem PySem.Spec PyProof.Rows
def D_law_number : He.DefD := ⟨("_law_number", none), "_law_number", "_law_number", defArgs s_law_number, defBody s_law_number, defScope s_law_number, [], []⟩
def D_law_draws : He.DefD := ⟨("_law_draws", none), "_law_draws", "_law_draws", defArgs s_law_draws, defBody s_law_draws, defScope s_law_draws, [], []⟩
def D_law_divisor : He.DefD := ⟨("_law_divisor", none), "_law_divisor", "_law_divisor", defArgs s_law_divisor, defBody s_law_divisor, defScope s_law_divisor, [], []⟩
def D_law_short : He.DefD := ⟨("_law_short", none), "_law_short", "_law_short", defArgs s_law_short, defBody s_law_short, defScope s_law_short, [], []⟩
def D_law_next : He.DefD := ⟨("_law_next", none), "_law_next", "_law_next", defArgs s_law_next, defBody s_law_next, defScope s_law_next, [], []⟩
def D_law_rows : He.DefD := ⟨("_law_rows", none), "_law_rows", "_law_rows", defArgs s_law_rows, defBody s_law_rows, defScope s_law_rows, [], []⟩
def D_law_subsets : He.DefD := ⟨("_law_subsets", none), "_law_subsets", "_law_subsets", defArgs s_law_subsets, defBody s_law_subsets, defScope s_law_subsets, [], []⟩
def D_law_chosen : He.DefD := ⟨("_law_chosen", none), "_law_chosen", "_law_chosen", defArgs s_law_chosen, defBody s_law_chosen, defScope s_law_chosen, [], []⟩
def D_law_rank : He.DefD := ⟨("_law_rank", none), "_law_rank", "_law_rank", defArgs s_law_rank, defBody s_law_rank, defScope s_law_rank, [], []⟩
def D_law_is_met : He.DefD := ⟨("_law_is_met", none), "_law_is_met", "_law_is_met", defArgs s_law_is_met, defBody s_law_is_met, defScope s_law_is_met, [], []⟩
def D_law_closed : He.DefD := ⟨("_law_closed", none), "_law_closed", "_law_closed", defArgs s_law_closed, defBody s_law_closed, defScope s_law_closed, [], []⟩
def D_law_web : He.DefD := ⟨("_law_web", none), "_law_web", "_law_web", defArgs s_law_web, defBody s_law_web, defScope s_law_web, [], []⟩
def DSpan_init : He.DefD := ⟨("Span", some "__init__"), "__init__", "Span.__init__", defArgs sSpan_init, defBody sSpan_init, defScope sSpan_init, [], []⟩
def Ddivisor : He.DefD := ⟨("divisor", none), "divisor", "divisor", defArgs sdivisor, defBody sdivisor, defScope sdivisor, [], []⟩
def Dcommon_of : He.DefD := ⟨("common_of", none), "common_of", "common_of", defArgs scommon_of, defBody scommon_of, defScope scommon_of, [], []⟩
def Dshortened : He.DefD := ⟨("shortened", none), "shortened", "shortened", defArgs sshortened, defBody sshortened, defScope sshortened, [], []⟩
def DSpan_rest : He.DefD := ⟨("Span", some "rest"), "rest", "Span.rest", defArgs sSpan_rest, defBody sSpan_rest, defScope sSpan_rest, [], []⟩
def DSpan_place_of : He.DefD := ⟨("Span", some "place_of"), "place_of", "Span.place_of", defArgs sSpan_place_of, defBody sSpan_place_of, defScope sSpan_place_of, [], []⟩
def DSpan_with_rest : He.DefD := ⟨("Span", some "with_rest"), "with_rest", "Span.with_rest", defArgs sSpan_with_rest, defBody sSpan_with_rest, defScope sSpan_with_rest, [], []⟩
def Dspan_of_rows : He.DefD := ⟨("span_of_rows", none), "span_of_rows", "span_of_rows", defArgs sspan_of_rows, defBody sspan_of_rows, defScope sspan_of_rows, [], []⟩
def DPlanes_planes : He.DefD := ⟨("Planes", some "planes"), "planes", "Planes.planes", defArgs sPlanes_planes, defBody sPlanes_planes, defScope sPlanes_planes, [], []⟩
def Dchosen : He.DefD := ⟨("chosen", none), "chosen", "chosen", defArgs schosen, defBody schosen, defScope schosen, [], []⟩
def Dspan_at : He.DefD := ⟨("span_at", none), "span_at", "span_at", defArgs sspan_at, defBody sspan_at, defScope sspan_at, [], []⟩
def Dascends : He.DefD := ⟨("ascends", none), "ascends", "ascends", defArgs sascends, defBody sascends, defScope sascends, [], []⟩
def Dclosed : He.DefD := ⟨("closed", none), "closed", "closed", defArgs sclosed, defBody sclosed, defScope sclosed, [], []⟩
def DPlanes_len : He.DefD := ⟨("Planes", some "__len__"), "__len__", "Planes.__len__", defArgs sPlanes_len, defBody sPlanes_len, defScope sPlanes_len, [], []⟩
def Dis_flat : He.DefD := ⟨("is_flat", none), "is_flat", "is_flat", defArgs sis_flat, defBody sis_flat, defScope sis_flat, [], []⟩
def Dcheck_flat : He.DefD := ⟨("check_flat", none), "check_flat", "check_flat", defArgs scheck_flat, defBody scheck_flat, defScope scheck_flat, [], []⟩
def Dmeet_of : He.DefD := ⟨("meet_of", none), "meet_of", "meet_of", defArgs smeet_of, defBody smeet_of, defScope smeet_of, [], []⟩
def Dcheck_places : He.DefD := ⟨("check_places", none), "check_places", "check_places", defArgs scheck_places, defBody scheck_places, defScope scheck_places, [], []⟩
def Dflat_of : He.DefD := ⟨("flat_of", none), "flat_of", "flat_of", defArgs sflat_of, defBody sflat_of, defScope sflat_of, [], []⟩
def Dmeets : He.DefD := ⟨("meets", none), "meets", "meets", defArgs smeets, defBody smeets, defScope smeets, [], []⟩
def Drank_of : He.DefD := ⟨("rank_of", none), "rank_of", "rank_of", defArgs srank_of, defBody srank_of, defScope srank_of, [], []⟩
def Dflat_dimension : He.DefD := ⟨("flat_dimension", none), "flat_dimension", "flat_dimension", defArgs sflat_dimension, defBody sflat_dimension, defScope sflat_dimension, [], []⟩
def Dspan_of : He.DefD := ⟨("span_of", none), "span_of", "span_of", defArgs sspan_of, defBody sspan_of, defScope sspan_of, [], []⟩
def D_law_error : He.DefD := ⟨("_law_error", none), "_law_error", "_law_error", defArgs s_law_error, defBody s_law_error, defScope s_law_error, [], []⟩
def D_law_told : He.DefD := ⟨("_law_told", none), "_law_told", "_law_told", defArgs s_law_told, defBody s_law_told, defScope s_law_told, [], []⟩
def D_law_sets : He.DefD := ⟨("_law_sets", none), "_law_sets", "_law_sets", defArgs s_law_sets, defBody s_law_sets, defScope s_law_sets, [], []⟩
def D_law_pairs : He.DefD := ⟨("_law_pairs", none), "_law_pairs", "_law_pairs", defArgs s_law_pairs, defBody s_law_pairs, defScope s_law_pairs, [], []⟩
def Dlevels : He.DefD := ⟨("levels", none), "levels", "levels", defArgs slevels, defBody slevels, defScope slevels, [], []⟩
def Dflats_by_rank : He.DefD := ⟨("flats_by_rank", none), "flats_by_rank", "flats_by_rank", defArgs sflats_by_rank, defBody sflats_by_rank, defScope sflats_by_rank, [], []⟩
def Dweb : He.DefD := ⟨("web", none), "web", "web", defArgs sweb, defBody sweb, defScope sweb, [], []⟩
def Dcheck_letters : He.DefD := ⟨("check_letters", none), "check_letters", "check_letters", defArgs scheck_letters, defBody scheck_letters, defScope scheck_letters, [], []⟩
def Dis_plane : He.DefD := ⟨("is_plane", none), "is_plane", "is_plane", defArgs sis_plane, defBody sis_plane, defScope sis_plane, [], []⟩
def Dother_way : He.DefD := ⟨("other_way", none), "other_way", "other_way", defArgs sother_way, defBody sother_way, defScope sother_way, [], []⟩
def Dare_planes : He.DefD := ⟨("are_planes", none), "are_planes", "are_planes", defArgs sare_planes, defBody sare_planes, defScope sare_planes, [], []⟩
def DPlanes_init : He.DefD := ⟨("Planes", some "__init__"), "__init__", "Planes.__init__", defArgs sPlanes_init, defBody sPlanes_init, defScope sPlanes_init, [], []⟩
def Dlaw : He.DefD := ⟨("law", none), "law", "law", defArgs slaw, defBody slaw, defScope slaw, [], []⟩
def fns : List He.DefD := [D_law_number, D_law_draws, D_law_divisor, D_law_short, D_law_next, D_law_rows, D_law_subsets, D_law_chosen, D_law_rank, D_law_is_met, D_law_closed, D_law_web, DSpan_init, Ddivisor, Dcommon_of, Dshortened, DSpan_rest, DSpan_place_of, DSpan_with_rest, Dspan_of_rows, DPlanes_planes, Dchosen, Dspan_at, Dascends, Dclosed, DPlanes_len, Dis_flat, Dcheck_flat, Dmeet_of, Dcheck_places, Dflat_of, Dmeets, Drank_of, Dflat_dimension, Dspan_of, D_law_error, D_law_told, D_law_sets, D_law_pairs, Dlevels, Dflats_by_rank, Dweb, Dcheck_letters, Dis_plane, Dother_way, Dare_planes, DPlanes_init, Dlaw]
def fas : List He.Fa := [.glo "BadNumber", .glo "NoAnswer", .glo "NotFlat", .glo "NotPlanes", .glo "PlaneError", .glo "Planes", .glo "Span", .glo "_law_chosen", .glo "_law_closed", .glo "_law_divisor", .glo "_law_draws", .glo "_law_error", .glo "_law_is_met", .glo "_law_next", .glo "_law_number", .glo "_law_pairs", .glo "_law_rank", .glo "_law_rows", .glo "_law_sets", .glo "_law_short", .glo "_law_subsets", .glo "_law_told", .glo "_law_web", .glo "are_planes", .glo "ascends", .glo "check_flat", .glo "check_letters", .glo "check_places", .glo "chosen", .glo "closed", .glo "common_of", .glo "divisor", .glo "flat_dimension", .glo "flat_of", .glo "flats_by_rank", .glo "is_flat", .glo "is_plane", .glo "law", .glo "levels", .glo "meet_of", .glo "meets", .glo "other_way", .glo "rank_of", .glo "shortened", .glo "span_at", .glo "span_of", .glo "span_of_rows", .glo "web", .free "abs", .free "all", .free "any", .free "enumerate", .free "int", .free "isinstance", .free "len", .free "list", .free "range", .free "repr", .free "sorted", .free "tuple", .cls "Planes", .mkr "Planes", .meth "Planes" "__len__", .meth "Planes" "planes", .noat "Planes" "kept", .noat "Planes" "n", .cls "Span", .mkr "Span", .meth "Span" "rest", .meth "Span" "place_of", .meth "Span" "with_rest", .noat "Span" "n", .noat "Span" "q", .noat "Span" "rows", .int "MOST_ENTRY" cMOST_ENTRY, .int "MOST_LETTERS" cMOST_LETTERS, .int "MOST_PLANES" cMOST_PLANES, .exc "PlaneError", .exc "NotPlanes", .exc "NotFlat", .exc "BadNumber", .exc "NoAnswer", .exm "PlaneError" "PlaneError" true, .exm "NotPlanes" "PlaneError" true, .exm "NotFlat" "PlaneError" true, .exm "BadNumber" "PlaneError" true, .exm "NoAnswer" "PlaneError" true]
def xfs (K : PySem.W.Frag) : Bool := (excB K "PlaneError" && (excB K "NotPlanes" && (excB K "NotFlat" && (excB K "BadNumber" && (excB K "NoAnswer" && (kitB K "PlaneError" "BadNumber" false && (kitB K "NotPlanes" "BadNumber" false && (kitB K "NotFlat" "BadNumber" false && (kitB K "BadNumber" "BadNumber" true && (kitB K "NoAnswer" "BadNumber" false && (kitB K "PlaneError" "NoAnswer" false && (kitB K "NotPlanes" "NoAnswer" false && (kitB K "NotFlat" "NoAnswer" false && (kitB K "BadNumber" "NoAnswer" false && (kitB K "NoAnswer" "NoAnswer" true && (kitB K "PlaneError" "NotFlat" false && (kitB K "NotPlanes" "NotFlat" false && (kitB K "NotFlat" "NotFlat" true && (kitB K "BadNumber" "NotFlat" false && (kitB K "NoAnswer" "NotFlat" false && (kitB K "PlaneError" "PlaneError" true && (kitB K "NotPlanes" "PlaneError" true && (kitB K "NotFlat" "PlaneError" true && (kitB K "BadNumber" "PlaneError" true && (kitB K "NoAnswer" "PlaneError" true && true)))))))))))))))))))))))))
def loose0 : List Str := ["_wall", "PlaneError", "NotPlanes", "NotFlat", "BadNumber", "NoAnswer", "ZERO", "divisor", "lowest", "summed", "multiplied", "negated", "inverted", "common_of", "shortened", "Span", "span_of_rows", "closed", "levels", "check_places"]
def loose1 : List Str := ["chosen", "span_at", "meets", "rank_of", "flat_of", "flats_by_rank", "web", "ascends", "is_flat", "check_flat", "flat_dimension", "span_of", "meet_of", "lessened", "reduced", "rank_of_rows", "MOST_LETTERS", "MOST_PLANES", "MOST_ENTRY", "check_letters"]
def loose2 : List Str := ["is_plane", "other_way", "are_planes", "Planes", "check_index", "numbers_of", "_law_number", "_law_draws", "_law_next", "_law_divisor", "_law_short", "_law_rows", "_law_rank", "_law_chosen", "_law_is_met", "_law_closed", "_law_subsets", "_law_web", "_law_has", "_law_weights"]
def loose3 : List Str := ["_law_polynomial", "_law_error", "_law_told", "_law_sets", "_law_pairs"]
def loose : List Str := loose0 ++ loose1 ++ loose2 ++ loose3
abbrev R : PySem.W.OpenRow := PySem.W.OpenLaw.row PySem.Challenge.rw_planeworth_k30_webs_of_meets
abbrev hk : PySem.W.Hook := hookX 4 fas xfs fns
def ob (s : PySem.W.SharedT) : He.AlD := obXG 4 fas xfs fns (HandSHeadRun.getT s)
theorem ob_eq (s : PySem.W.SharedT) : ob s = hk.obs s.abs := obXG_eq (HandSHeadRun.getT_eq s)
theorem run (w : World) : HandSHeadRun.RunEq R (PySem.W.view R.prog [72]) hk ob 20000 loose w := by
  intro os
  kernel_rfl
theorem fcOk {K : PySem.W.Frag} {h : Heap} {mg : Str → Option Value} (X : K.In h) (G : h.Ns mainGlobals mg) (c : SaysX fas xfs fns K) : Fc K mg := by
  have x0 : xfs K = true := c.x1
  unfold xfs at x0
  obtain ⟨y0, x1⟩ := He.ba x0
  obtain ⟨y1, x2⟩ := He.ba x1
  obtain ⟨y2, x3⟩ := He.ba x2
  obtain ⟨y3, x4⟩ := He.ba x3
  obtain ⟨y4, x5⟩ := He.ba x4
  obtain ⟨y5, x6⟩ := He.ba x5
  obtain ⟨y6, x7⟩ := He.ba x6
  obtain ⟨y7, x8⟩ := He.ba x7
  obtain ⟨y8, x9⟩ := He.ba x8
  obtain ⟨y9, x10⟩ := He.ba x9
  obtain ⟨y10, x11⟩ := He.ba x10
  obtain ⟨y11, x12⟩ := He.ba x11
  obtain ⟨y12, x13⟩ := He.ba x12
  obtain ⟨y13, x14⟩ := He.ba x13
  obtain ⟨y14, x15⟩ := He.ba x14
  obtain ⟨y15, x16⟩ := He.ba x15
  obtain ⟨y16, x17⟩ := He.ba x16
  obtain ⟨y17, x18⟩ := He.ba x17
  obtain ⟨y18, x19⟩ := He.ba x18
  obtain ⟨y19, x20⟩ := He.ba x19
  obtain ⟨y20, x21⟩ := He.ba x20
  obtain ⟨y21, x22⟩ := He.ba x21
  obtain ⟨y22, x23⟩ := He.ba x22
  obtain ⟨y23, x24⟩ := He.ba x23
  obtain ⟨y24, x25⟩ := He.ba x24
  exact {
    g_BadNumber := He.glo_ok X G (c.d.fact 0 rfl)
    g_NoAnswer := He.glo_ok X G (c.d.fact 1 rfl)
    g_NotFlat := He.glo_ok X G (c.d.fact 2 rfl)
    g_NotPlanes := He.glo_ok X G (c.d.fact 3 rfl)
    g_PlaneError := He.glo_ok X G (c.d.fact 4 rfl)
    g_Planes := He.glo_ok X G (c.d.fact 5 rfl)
    g_Span := He.glo_ok X G (c.d.fact 6 rfl)
    g__law_chosen := He.glo_ok X G (c.d.fact 7 rfl)
    g__law_closed := He.glo_ok X G (c.d.fact 8 rfl)
    g__law_divisor := He.glo_ok X G (c.d.fact 9 rfl)
    g__law_draws := He.glo_ok X G (c.d.fact 10 rfl)
    g__law_error := He.glo_ok X G (c.d.fact 11 rfl)
    g__law_is_met := He.glo_ok X G (c.d.fact 12 rfl)
    g__law_next := He.glo_ok X G (c.d.fact 13 rfl)
    g__law_number := He.glo_ok X G (c.d.fact 14 rfl)
    g__law_pairs := He.glo_ok X G (c.d.fact 15 rfl)
    g__law_rank := He.glo_ok X G (c.d.fact 16 rfl)
    g__law_rows := He.glo_ok X G (c.d.fact 17 rfl)
    g__law_sets := He.glo_ok X G (c.d.fact 18 rfl)
    g__law_short := He.glo_ok X G (c.d.fact 19 rfl)
    g__law_subsets := He.glo_ok X G (c.d.fact 20 rfl)
    g__law_told := He.glo_ok X G (c.d.fact 21 rfl)
    g__law_web := He.glo_ok X G (c.d.fact 22 rfl)
    g_are_planes := He.glo_ok X G (c.d.fact 23 rfl)
    g_ascends := He.glo_ok X G (c.d.fact 24 rfl)
    g_check_flat := He.glo_ok X G (c.d.fact 25 rfl)
    g_check_letters := He.glo_ok X G (c.d.fact 26 rfl)
    g_check_places := He.glo_ok X G (c.d.fact 27 rfl)
    g_chosen := He.glo_ok X G (c.d.fact 28 rfl)
    g_closed := He.glo_ok X G (c.d.fact 29 rfl)
    g_common_of := He.glo_ok X G (c.d.fact 30 rfl)
    g_divisor := He.glo_ok X G (c.d.fact 31 rfl)
    g_flat_dimension := He.glo_ok X G (c.d.fact 32 rfl)
    g_flat_of := He.glo_ok X G (c.d.fact 33 rfl)
    g_flats_by_rank := He.glo_ok X G (c.d.fact 34 rfl)
    g_is_flat := He.glo_ok X G (c.d.fact 35 rfl)
    g_is_plane := He.glo_ok X G (c.d.fact 36 rfl)
    g_law := He.glo_ok X G (c.d.fact 37 rfl)
    g_levels := He.glo_ok X G (c.d.fact 38 rfl)
    g_meet_of := He.glo_ok X G (c.d.fact 39 rfl)
    g_meets := He.glo_ok X G (c.d.fact 40 rfl)
    g_other_way := He.glo_ok X G (c.d.fact 41 rfl)
    g_rank_of := He.glo_ok X G (c.d.fact 42 rfl)
    g_shortened := He.glo_ok X G (c.d.fact 43 rfl)
    g_span_at := He.glo_ok X G (c.d.fact 44 rfl)
    g_span_of := He.glo_ok X G (c.d.fact 45 rfl)
    g_span_of_rows := He.glo_ok X G (c.d.fact 46 rfl)
    g_web := He.glo_ok X G (c.d.fact 47 rfl)
    f_abs := He.free_ok X G (c.d.fact 48 rfl)
    f_all := He.free_ok X G (c.d.fact 49 rfl)
    f_any := He.free_ok X G (c.d.fact 50 rfl)
    f_enumerate := He.free_ok X G (c.d.fact 51 rfl)
    f_int := He.free_ok X G (c.d.fact 52 rfl)
    f_isinstance := He.free_ok X G (c.d.fact 53 rfl)
    f_len := He.free_ok X G (c.d.fact 54 rfl)
    f_list := He.free_ok X G (c.d.fact 55 rfl)
    f_range := He.free_ok X G (c.d.fact 56 rfl)
    f_repr := He.free_ok X G (c.d.fact 57 rfl)
    f_sorted := He.free_ok X G (c.d.fact 58 rfl)
    f_tuple := He.free_ok X G (c.d.fact 59 rfl)
    cl_Planes := He.cls_ok (c.d.fact 60 rfl)
    mk_Planes := He.mkr_ok (c.d.fact 61 rfl)
    me_Planes_len := He.meth_ok (c.d.fact 62 rfl)
    me_Planes_planes := He.meth_ok (c.d.fact 63 rfl)
    na_Planes_kept := He.noat_ok (c.d.fact 64 rfl)
    na_Planes_n := He.noat_ok (c.d.fact 65 rfl)
    cl_Span := He.cls_ok (c.d.fact 66 rfl)
    mk_Span := He.mkr_ok (c.d.fact 67 rfl)
    me_Span_rest := He.meth_ok (c.d.fact 68 rfl)
    me_Span_place_of := He.meth_ok (c.d.fact 69 rfl)
    me_Span_with_rest := He.meth_ok (c.d.fact 70 rfl)
    na_Span_n := He.noat_ok (c.d.fact 71 rfl)
    na_Span_q := He.noat_ok (c.d.fact 72 rfl)
    na_Span_rows := He.noat_ok (c.d.fact 73 rfl)
    c_MOST_ENTRY := He.int_ok X G (c.d.fact 74 rfl)
    c_MOST_LETTERS := He.int_ok X G (c.d.fact 75 rfl)
    c_MOST_PLANES := He.int_ok X G (c.d.fact 76 rfl)
    e_PlaneError := (let z := He.exc_ok (c.d.fact 77 rfl); ⟨z.1, z.2.1, z.2.2.1, z.2.2.2, He.glo_ok X G (c.d.fact 4 rfl)⟩)
    e_NotPlanes := (let z := He.exc_ok (c.d.fact 78 rfl); ⟨z.1, z.2.1, z.2.2.1, z.2.2.2, He.glo_ok X G (c.d.fact 3 rfl)⟩)
    e_NotFlat := (let z := He.exc_ok (c.d.fact 79 rfl); ⟨z.1, z.2.1, z.2.2.1, z.2.2.2, He.glo_ok X G (c.d.fact 2 rfl)⟩)
    e_BadNumber := (let z := He.exc_ok (c.d.fact 80 rfl); ⟨z.1, z.2.1, z.2.2.1, z.2.2.2, He.glo_ok X G (c.d.fact 0 rfl)⟩)
    e_NoAnswer := (let z := He.exc_ok (c.d.fact 81 rfl); ⟨z.1, z.2.1, z.2.2.1, z.2.2.2, He.glo_ok X G (c.d.fact 1 rfl)⟩)
    m_PlaneError_PlaneError := He.exm_ok (c.d.fact 82 rfl)
    m_PlaneError_NotPlanes := He.exm_ok (c.d.fact 83 rfl)
    m_PlaneError_NotFlat := He.exm_ok (c.d.fact 84 rfl)
    m_PlaneError_BadNumber := He.exm_ok (c.d.fact 85 rfl)
    m_PlaneError_NoAnswer := He.exm_ok (c.d.fact 86 rfl)
    x_PlaneError_PlaneError := excB_ok y0
    x_PlaneError_NotPlanes := excB_ok y1
    x_PlaneError_NotFlat := excB_ok y2
    x_PlaneError_BadNumber := excB_ok y3
    x_PlaneError_NoAnswer := excB_ok y4
    k_PlaneError_BadNumber_PlaneError := kitB_ok y5
    k_PlaneError_BadNumber_NotPlanes := kitB_ok y6
    k_PlaneError_BadNumber_NotFlat := kitB_ok y7
    k_PlaneError_BadNumber_BadNumber := kitB_ok y8
    k_PlaneError_BadNumber_NoAnswer := kitB_ok y9
    k_PlaneError_NoAnswer_PlaneError := kitB_ok y10
    k_PlaneError_NoAnswer_NotPlanes := kitB_ok y11
    k_PlaneError_NoAnswer_NotFlat := kitB_ok y12
    k_PlaneError_NoAnswer_BadNumber := kitB_ok y13
    k_PlaneError_NoAnswer_NoAnswer := kitB_ok y14
    k_PlaneError_NotFlat_PlaneError := kitB_ok y15
    k_PlaneError_NotFlat_NotPlanes := kitB_ok y16
    k_PlaneError_NotFlat_NotFlat := kitB_ok y17
    k_PlaneError_NotFlat_BadNumber := kitB_ok y18
    k_PlaneError_NotFlat_NoAnswer := kitB_ok y19
    k_PlaneError_PlaneError_PlaneError := kitB_ok y20
    k_PlaneError_PlaneError_NotPlanes := kitB_ok y21
    k_PlaneError_PlaneError_NotFlat := kitB_ok y22
    k_PlaneError_PlaneError_BadNumber := kitB_ok y23
    k_PlaneError_PlaneError_NoAnswer := kitB_ok y24
    d__law_number := c.d.def_ 0 (d := D_law_number) rfl
    d__law_draws := c.d.def_ 1 (d := D_law_draws) rfl
    d__law_divisor := c.d.def_ 2 (d := D_law_divisor) rfl
    d__law_short := c.d.def_ 3 (d := D_law_short) rfl
    d__law_next := c.d.def_ 4 (d := D_law_next) rfl
    d__law_rows := c.d.def_ 5 (d := D_law_rows) rfl
    d__law_subsets := c.d.def_ 6 (d := D_law_subsets) rfl
    d__law_chosen := c.d.def_ 7 (d := D_law_chosen) rfl
    d__law_rank := c.d.def_ 8 (d := D_law_rank) rfl
    d__law_is_met := c.d.def_ 9 (d := D_law_is_met) rfl
    d__law_closed := c.d.def_ 10 (d := D_law_closed) rfl
    d__law_web := c.d.def_ 11 (d := D_law_web) rfl
    d_Span_init := c.d.def_ 12 (d := DSpan_init) rfl
    d_divisor := c.d.def_ 13 (d := Ddivisor) rfl
    d_common_of := c.d.def_ 14 (d := Dcommon_of) rfl
    d_shortened := c.d.def_ 15 (d := Dshortened) rfl
    d_Span_rest := c.d.def_ 16 (d := DSpan_rest) rfl
    d_Span_place_of := c.d.def_ 17 (d := DSpan_place_of) rfl
    d_Span_with_rest := c.d.def_ 18 (d := DSpan_with_rest) rfl
    d_span_of_rows := c.d.def_ 19 (d := Dspan_of_rows) rfl
    d_Planes_planes := c.d.def_ 20 (d := DPlanes_planes) rfl
    d_chosen := c.d.def_ 21 (d := Dchosen) rfl
    d_span_at := c.d.def_ 22 (d := Dspan_at) rfl
    d_ascends := c.d.def_ 23 (d := Dascends) rfl
    d_closed := c.d.def_ 24 (d := Dclosed) rfl
    d_Planes_len := c.d.def_ 25 (d := DPlanes_len) rfl
    d_is_flat := c.d.def_ 26 (d := Dis_flat) rfl
    d_check_flat := c.d.def_ 27 (d := Dcheck_flat) rfl
    d_meet_of := c.d.def_ 28 (d := Dmeet_of) rfl
    d_check_places := c.d.def_ 29 (d := Dcheck_places) rfl
    d_flat_of := c.d.def_ 30 (d := Dflat_of) rfl
    d_meets := c.d.def_ 31 (d := Dmeets) rfl
    d_rank_of := c.d.def_ 32 (d := Drank_of) rfl
    d_flat_dimension := c.d.def_ 33 (d := Dflat_dimension) rfl
    d_span_of := c.d.def_ 34 (d := Dspan_of) rfl
    d__law_error := c.d.def_ 35 (d := D_law_error) rfl
    d__law_told := c.d.def_ 36 (d := D_law_told) rfl
    d__law_sets := c.d.def_ 37 (d := D_law_sets) rfl
    d__law_pairs := c.d.def_ 38 (d := D_law_pairs) rfl
    d_levels := c.d.def_ 39 (d := Dlevels) rfl
    d_flats_by_rank := c.d.def_ 40 (d := Dflats_by_rank) rfl
    d_web := c.d.def_ 41 (d := Dweb) rfl
    d_check_letters := c.d.def_ 42 (d := Dcheck_letters) rfl
    d_is_plane := c.d.def_ 43 (d := Dis_plane) rfl
    d_other_way := c.d.def_ 44 (d := Dother_way) rfl
    d_are_planes := c.d.def_ 45 (d := Dare_planes) rfl
    d_Planes_init := c.d.def_ 46 (d := DPlanes_init) rfl
    d_law := c.d.def_ 47 (d := Dlaw) rfl }
end K30
open PySem PySem.W PySem.Calls PyProof.Rows
theorem PySem.Challenge.cw_planeworth_k30_webs_of_meets_holds : PySem.Challenge.rw_planeworth_k30_webs_of_meets.Holds := by
  w_on; o_law
  refine HandSHeadRun.head_any (r := OpenLaw.row PySem.Challenge.rw_planeworth_k30_webs_of_meets) (q := view (OpenLaw.row PySem.Challenge.rw_planeworth_k30_webs_of_meets).prog [72]) (H := K30.hk) (ob := K30.ob)
    (M := 20000) (loose := K30.loose) (d := HandSHeadRun.topDef (OpenLaw.row PySem.Challenge.rw_planeworth_k30_webs_of_meets).prog 72) (kwd := []) K30.ob_eq
    (by kernel_rfl) (fun s => by kernel_rfl) K30.run (by kernel_rfl)
    (by kernel_rfl) (by kernel_rfl) (by rfl) (by first | assumption | decide +kernel) (by decide +kernel) ⟨rfl, rfl, rfl, rfl, rfl, by decide +kernel⟩ ?hw ?hc
  case hw => w_witness2
  case hc =>
    refine DL.walkG (l := PySem.Challenge.rw_planeworth_k30_webs_of_meets) (n := 63) (k := 12) (F := K30.Flaw) rfl (by decide) (by kernel_rfl) ⟨rfl, by decide, by decide⟩ ?C K30.law_true
    intro w mg fL h Y G hmg0
    obtain ⟨K, kin, c⟩ := Y
    have hmg : mg ("law" : PySem.Str) = some (.ref fL) := by
      have e : (HandSHeadRun.topDef (OpenLaw.row PySem.Challenge.rw_planeworth_k30_webs_of_meets).prog 72).name = ("law" : PySem.Str) := by kernel_rfl
      rw [← e]
      exact hmg0
    have fc := K30.fcOk kin G c
    have e := hmg.symm.trans fc.g_law
    cases e
    exact ⟨K, kin, fun base _ _ => K30.glaw fc base⟩
