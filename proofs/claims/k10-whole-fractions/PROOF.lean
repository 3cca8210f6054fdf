import PyProof.Rows.All
import Wide.All
import OpenK.AllK
import Wide.FinOn
import HandS.ForMost
import HandS.Exc
import HandS.TryOnly
import HandS.TryMany
import HandS.ExcOwn
import HandS.IsInst
import HandS.Deep
import HandS.WordsExc
import HandS.TupAny
import HandS.TupMul
import HandS.Conv
import HandS.SortInts
import HandS.TupLen
import HandS.Zip
import HandS.Style
import HandS.Small
import HandS.ExcField
import KE.KExcSuper
import HandS.More
import PySem.Challenge.RW_coinspaidout_k10_whole_fractions
set_option Elab.async false
set_option linter.all false
set_option maxRecDepth 100000
/-! Mir1: plain data D, the mirror's state, the relation to the machine's state, the readings of mirrors. -/
namespace Mir
open PySem PySem.Spec PyProof.Rows L2

/-- plain data -/
inductive D where
  | non | bl (b : Bool) | int (i : Int) | str (s : Str)
  | lst (ds : List D) | tup (ds : List D) | dic (t : Bool) (kvs : List (D × D))
  | ins (c : Str) (fs : List (Str × D)) | cel (n : Nat) | scr (ns : List Int)

/-- a slot: unset, a value, a list of its own, a dict of its own, an instance of its own, a caught exception -/
inductive Sl where
  | un | va (d : D) | ol (ds : List D) | od (t : Bool) (kvs : List (D × D)) | oi (c : Str) (fs : List (Str × D)) | xc (c : Str) (fs : List (Str × D))
def Sl.live : Sl → Bool
  | .ol _ => true
  | .od _ _ => true
  | .oi _ _ => true
  | _ => false
/-- a cell: a list or an instance that is changed through references; un: none looks at it now -/
inductive Cl where
  | un | l (ds : List D) | i (c : Str) (fs : List (Str × D))
def Cl.vis : Cl → Bool
  | .un => false
  | _ => true
structure MS where
  env : List Sl
  sto : List Cl
/-- an outcome -/
inductive R (α : Type) where
  | ok (a : α) (s : MS) | ex (c : Str) (fs : List (Str × D)) (s : MS) | st
def R.bind {α β : Type} (r : R α) (f : α → MS → R β) : R β := match r with
  | .ok a s => f a s
  | .ex c fs s => .ex c fs s
  | .st => .st
/-- where a statement ends -/
inductive Fl where
  | nx | bk | ct | rt (d : D)
abbrev Exp := MS → R D
abbrev Exps := MS → R (List D)
abbrev Tst := MS → R Bool
abbrev Stm := MS → R Fl

/-- what is told of the text, of the handled exception, of the wish about exceptions -/
structure Cfg where
  K : PySem.W.Frag
  cls : Str → Option Addr
structure Zu extends Cfg where
  Z : Addr → Value → Option Addr → Prop
structure Su extends Zu where
  W : WX
/-- the frozen part, the part of others, the cells' addresses -/
structure Bd where
  G : Hp
  F : Hp
  ρ : List Addr
  L : Addr → Bool
structure Bd.le (B B' : Bd) : Prop where
  g : ∀ a u, B.G a = some u → B'.G a = some u
  f : B'.F = B.F
  l : B'.L = B.L
  r : ∀ (n : Nat) (a : Addr), B.ρ[n]? = some a → B'.ρ[n]? = some a
  n : ∀ a ∈ B'.ρ, a ∈ B.ρ ∨ B.F a = none
theorem Bd.le.rfl' {B : Bd} : B.le B := ⟨fun _ _ h => h, rfl, rfl, fun _ _ h => h, fun _ h => .inl h⟩
theorem Bd.le.trans {B B1 B2 : Bd} (a : B.le B1) (b : B1.le B2) : B.le B2 :=
  ⟨fun x u h => b.g x u (a.g x u h), b.f.trans a.f, b.l.trans a.l, fun n x h => b.r n x (a.r n x h), fun x h => (b.n x h).elim (a.n x) fun q => .inr (by rw [← a.f]; exact q)⟩

/-- a dict may be locked while it is walked -/
def dicO : HO → Bool
  | .dK _ => true
  | .dT _ => true
  | _ => false
def tupO : HO → Bool
  | .tup _ => true
  | _ => false
def GOk (L : Addr → Bool) (H : Hp) (a : Addr) (o : HO) : Prop := (L a = false ∧ H a = some o) ∨ (L a = true ∧ dicO o = true ∧ ∃ ob, H a = some (.frz ob o))
theorem GOk.ex {L : Addr → Bool} {H : Hp} {a : Addr} {o : HO} (h : GOk L H a o) (n : dicO o = false) : H a = some o := h.elim (fun q => q.2) fun q => by rw [n] at q; cases q.2.1
theorem GOk.has {L : Addr → Bool} {H : Hp} {a : Addr} {o : HO} (h : GOk L H a o) : ∃ u, H a = some u := h.elim (fun q => ⟨_, q.2⟩) fun q => let ⟨_, _, _, e⟩ := q; ⟨_, e⟩
theorem GOk.mono {L : Addr → Bool} {H H' : Hp} {a : Addr} {o : HO} (h : GOk L H a o) (k : ∀ u, H a = some u → H' a = some u) : GOk L H' a o :=
  h.elim (fun q => .inl ⟨q.1, k _ q.2⟩) fun q => .inr ⟨q.1, q.2.1, let ⟨ob, e⟩ := q.2.2; ⟨ob, k _ e⟩⟩
/-- a key of plain data -/
def kD : Key → D
  | .inl i => .int i
  | .inr s => .str s

mutual
inductive Rep (T : Cfg) (B : Bd) : D → V → Prop
  | non : Rep T B .non .non
  | bl (b : Bool) : Rep T B (.bl b) (.bl b)
  | int (i : Int) : Rep T B (.int i) (.int i)
  | str (s : Str) : Rep T B (.str s) (.str s)
  | lst {ds : List D} {a : Addr} {xs : List V} : B.G a = some (.lst xs) → RepL T B ds xs → Rep T B (.lst ds) (.ref a)
  | scr {ns : List Int} {a : Addr} : SqL T.K B.G a (ns.map V.int) → Rep T B (.scr ns) (.ref a)
  | tup {ds : List D} {a : Addr} {xs : List V} : B.G a = some (.tup xs) → RepL T B ds xs → Rep T B (.tup ds) (.ref a)
  | dic {kvs : List (D × D)} {a : Addr} {ks : List (Key × V)} : B.G a = some (.dK ks) → RepK T B kvs ks → Rep T B (.dic false kvs) (.ref a)
  | dit {kvs : List (D × D)} {a : Addr} {ks : List (List Key × V)} : B.G a = some (.dT ks) → RepT T B kvs ks → Rep T B (.dic true kvs) (.ref a)
  | ins {c : Str} {fs : List (Str × D)} {a C dx : Addr} {vs : List (Str × V)} : T.cls c = some C → B.G a = some (.ins C dx vs) → RepF T B fs vs → Rep T B (.ins c fs) (.ref a)
  | cel {n : Nat} {a : Addr} : B.ρ[n]? = some a → Rep T B (.cel n) (.ref a)
inductive RepL (T : Cfg) (B : Bd) : List D → List V → Prop
  | nil : RepL T B [] []
  | cons {d : D} {ds : List D} {v : V} {vs : List V} : Rep T B d v → RepL T B ds vs → RepL T B (d :: ds) (v :: vs)
inductive RepF (T : Cfg) (B : Bd) : List (Str × D) → List (Str × V) → Prop
  | nil : RepF T B [] []
  | cons {f : Str} {d : D} {ds : List (Str × D)} {v : V} {vs : List (Str × V)} : Rep T B d v → RepF T B ds vs → RepF T B ((f, d) :: ds) ((f, v) :: vs)
inductive RepK (T : Cfg) (B : Bd) : List (D × D) → List (Key × V) → Prop
  | nil : RepK T B [] []
  | cons {k : Key} {d : D} {ds : List (D × D)} {v : V} {vs : List (Key × V)} : Rep T B d v → RepK T B ds vs → RepK T B ((kD k, d) :: ds) ((k, v) :: vs)
inductive RepT (T : Cfg) (B : Bd) : List (D × D) → List (List Key × V) → Prop
  | nil : RepT T B [] []
  | cons {k : List Key} {d : D} {ds : List (D × D)} {v : V} {vs : List (List Key × V)} : Rep T B d v → RepT T B ds vs → RepT T B ((.tup (k.map kD), d) :: ds) ((k, v) :: vs)
end

/-- the frozen part and the cells alone -/
structure Bd.lg (B B' : Bd) : Prop where
  g : ∀ a u, B.G a = some u → B'.G a = some u
  r : ∀ (n : Nat) (a : Addr), B.ρ[n]? = some a → B'.ρ[n]? = some a
theorem Bd.le.lg {B B' : Bd} (h : B.le B') : B.lg B' := ⟨h.g, h.r⟩
section
variable {T : Cfg} {B B' : Bd}
theorem SqL.lg (h : B.lg B') {a : Addr} {xs : List V} {K : PySem.W.Frag} (q : SqL K B.G a xs) : SqL K B'.G a xs := q.elim (fun r => .inl (r.elim (fun e => .inl (h.g _ _ e)) fun e => .inr (let ⟨o, e⟩ := e; ⟨o, h.g _ _ e⟩))) .inr
theorem SqL.le (h : B.le B') {a : Addr} {xs : List V} {K : PySem.W.Frag} (q : SqL K B.G a xs) : SqL K B'.G a xs := SqL.lg h.lg q
theorem SqT.le (h : B.le B') {a : Addr} {xs : List V} {K : PySem.W.Frag} (q : SqT K B.G a xs) : SqT K B'.G a xs := q.elim (fun r => .inl (r.elim (fun e => .inl (h.g _ _ e)) fun e => .inr (let ⟨o, e⟩ := e; ⟨o, h.g _ _ e⟩))) .inr
mutual
theorem Rep.lg (h : B.lg B') : ∀ {d : D} {v : V}, Rep T B d v → Rep T B' d v
  | _, _, .non => .non
  | _, _, .bl b => .bl b
  | _, _, .int i => .int i
  | _, _, .str s => .str s
  | _, _, .lst q r => .lst (h.g _ _ q) (r.lg h)
  | _, _, .scr q => .scr (SqL.lg h q)
  | _, _, .tup q r => .tup (h.g _ _ q) (r.lg h)
  | _, _, .dic q r => .dic (h.g _ _ q) (r.lg h)
  | _, _, .dit q r => .dit (h.g _ _ q) (r.lg h)
  | _, _, .ins c q r => .ins c (h.g _ _ q) (r.lg h)
  | _, _, .cel q => .cel (h.r _ _ q)
theorem RepL.lg (h : B.lg B') : ∀ {ds : List D} {vs : List V}, RepL T B ds vs → RepL T B' ds vs
  | _, _, .nil => .nil
  | _, _, .cons a b => .cons (a.lg h) (b.lg h)
theorem RepF.lg (h : B.lg B') : ∀ {ds : List (Str × D)} {vs : List (Str × V)}, RepF T B ds vs → RepF T B' ds vs
  | _, _, .nil => .nil
  | _, _, .cons a b => .cons (a.lg h) (b.lg h)
theorem RepK.lg (h : B.lg B') : ∀ {ds : List (D × D)} {vs : List (Key × V)}, RepK T B ds vs → RepK T B' ds vs
  | _, _, .nil => .nil
  | _, _, .cons a b => .cons (a.lg h) (b.lg h)
theorem RepT.lg (h : B.lg B') : ∀ {ds : List (D × D)} {vs : List (List Key × V)}, RepT T B ds vs → RepT T B' ds vs
  | _, _, .nil => .nil
  | _, _, .cons a b => .cons (a.lg h) (b.lg h)
end
theorem Rep.le (h : B.le B') {d : D} {v : V} (q : Rep T B d v) : Rep T B' d v := q.lg h.lg
theorem RepL.le (h : B.le B') {ds : List D} {vs : List V} (q : RepL T B ds vs) : RepL T B' ds vs := q.lg h.lg
theorem RepF.le (h : B.le B') {ds : List (Str × D)} {vs : List (Str × V)} (q : RepF T B ds vs) : RepF T B' ds vs := q.lg h.lg
theorem RepK.le (h : B.le B') {ds : List (D × D)} {vs : List (Key × V)} (q : RepK T B ds vs) : RepK T B' ds vs := q.lg h.lg
theorem RepT.le (h : B.le B') {ds : List (D × D)} {vs : List (List Key × V)} (q : RepT T B ds vs) : RepT T B' ds vs := q.lg h.lg
end

/-- how a dict of plain data stands -/
def DicAt (T : Cfg) (B : Bd) (H : Hp) (a : Addr) (t : Bool) (kvs : List (D × D)) : Prop :=
  (t = false ∧ ∃ ks, H a = some (.dK ks) ∧ RepK T B kvs ks) ∨ (t = true ∧ ∃ ks, H a = some (.dT ks) ∧ RepT T B kvs ks)
def XdOk (T : Cfg) (B : Bd) (d : Option Addr) (fs : List (Str × D)) : Prop :=
  fs = [] ∨ ∃ dx vs, d = some dx ∧ B.G dx = some (.xd vs) ∧ RepF T B fs vs
def SlOk (T : Zu) (B : Bd) (H : Hp) : Sl → Option (Option V) → Prop
  | .un, _ => True
  | .va d, o => ∃ v, o = some (some v) ∧ Rep T.toCfg B d v
  | .ol ds, o => ∃ a xs, o = some (some (.ref a)) ∧ H a = some (.lst xs) ∧ RepL T.toCfg B ds xs
  | .od t kvs, o => ∃ a, o = some (some (.ref a)) ∧ DicAt T.toCfg B H a t kvs
  | .oi c fs, o => ∃ a C dx vs, o = some (some (.ref a)) ∧ T.cls c = some C ∧ H a = some (.ins C dx vs) ∧ RepF T.toCfg B fs vs
  | .xc c fs, o => ∃ a C d, o = some (some (.ref a)) ∧ T.cls c = some C ∧ T.Z a (.ref C) d ∧ XdOk T.toCfg B d fs
def CeOk (T : Cfg) (B : Bd) (H : Hp) : Cl → Addr → Prop
  | .un, a => ∃ u, H a = some u ∧ tupO u = false
  | .l ds, a => ∃ xs, H a = some (.lst xs) ∧ RepL T B ds xs
  | .i c fs, a => ∃ C dx vs, T.cls c = some C ∧ H a = some (.ins C dx vs) ∧ RepF T B fs vs

/-- the slot i owns the object at a -/
def Owns (S : MS) (σ : L2.St) (i : Nat) (a : Addr) : Prop := (∃ s, S.env[i]? = some s ∧ s.live = true) ∧ σ[i]? = some (some (.ref a))
structure Rl (T : Zu) (S : MS) (σ : L2.St) (H : Hp) (B : Bd) : Prop where
  ln : σ.length = S.env.length
  g : ∀ a o, B.G a = some o → GOk B.L H a o
  lk : ∀ a, B.L a = true → ∃ o, B.G a = some o
  f : ∀ a o, B.F a = some o → H a = some o ∧ (B.G a = none ∨ tupO o = true)
  sl : ∀ (i : Nat) (s : Sl), S.env[i]? = some s → SlOk T B H s (σ[i]? : Option (Option V))
  cl : S.sto.length = B.ρ.length
  ce : ∀ (n : Nat) (c : Cl) (a : Addr), S.sto[n]? = some c → B.ρ[n]? = some a → CeOk T.toCfg B H c a
  fs : ∀ i a, Owns S σ i a → B.G a = none ∧ B.F a = none ∧ a ∉ B.ρ
  fc : ∀ (n : Nat) (c : Cl) (a : Addr), S.sto[n]? = some c → B.ρ[n]? = some a → B.G a = none ∧ (c.vis = true → B.F a = none)
  ds : ∀ i j a, Owns S σ i a → Owns S σ j a → i = j
  dc : B.ρ.Nodup

theorem SlOk.lg {T : Zu} {B B' : Bd} {H : Hp} (h : B.lg B') : ∀ {s : Sl} {o : Option (Option V)}, SlOk T B H s o → SlOk T B' H s o
  | .un, _, _ => trivial
  | .va _, _, ⟨v, e, r⟩ => ⟨v, e, r.lg h⟩
  | .ol _, _, ⟨a, xs, e, k, r⟩ => ⟨a, xs, e, k, r.lg h⟩
  | .od _ _, _, ⟨a, e, .inl ⟨z, ks, k, r⟩⟩ => ⟨a, e, .inl ⟨z, ks, k, r.lg h⟩⟩
  | .od _ _, _, ⟨a, e, .inr ⟨z, ks, k, r⟩⟩ => ⟨a, e, .inr ⟨z, ks, k, r.lg h⟩⟩
  | .oi _ _, _, ⟨a, C, dx, vs, e, c, k, r⟩ => ⟨a, C, dx, vs, e, c, k, r.lg h⟩
  | .xc _ _, _, ⟨a, C, d, e, c, k, .inl z⟩ => ⟨a, C, d, e, c, k, .inl z⟩
  | .xc _ _, _, ⟨a, C, d, e, c, k, .inr ⟨dx, vs, z, q, r⟩⟩ => ⟨a, C, d, e, c, k, .inr ⟨dx, vs, z, h.g _ _ q, r.lg h⟩⟩
theorem SlOk.le {T : Zu} {B B' : Bd} {H : Hp} (h : B.le B') {s : Sl} {o : Option (Option V)} (q : SlOk T B H s o) : SlOk T B' H s o := q.lg h.lg
theorem CeOk.lg {T : Cfg} {B B' : Bd} {H : Hp} (h : B.lg B') : ∀ {s : Cl} {a : Addr}, CeOk T B H s a → CeOk T B' H s a
  | .un, _, h => h
  | .l _, _, ⟨xs, k, r⟩ => ⟨xs, k, r.lg h⟩
  | .i _ _, _, ⟨C, dx, vs, c, k, r⟩ => ⟨C, dx, vs, c, k, r.lg h⟩
theorem CeOk.le {T : Cfg} {B B' : Bd} {H : Hp} (h : B.le B') {s : Cl} {a : Addr} (q : CeOk T B H s a) : CeOk T B' H s a := q.lg h.lg
/-- what a slot leans on -/
theorem SlOk.heap {T : Zu} {B : Bd} {H H' : Hp} {s : Sl} {o : Option (Option V)} (x : SlOk T B H s o) (k : ∀ a u, s.live = true → o = some (some (.ref a)) → H a = some u → H' a = some u) : SlOk T B H' s o := by
  cases s with
  | un => trivial
  | va d => exact x
  | ol ds => obtain ⟨a, xs, e, q, r⟩ := x; exact ⟨a, xs, e, k a _ rfl e q, r⟩
  | od t kvs =>
    obtain ⟨a, e, q⟩ := x
    refine ⟨a, e, ?_⟩
    rcases q with ⟨z, ks, q, r⟩ | ⟨z, ks, q, r⟩
    · exact .inl ⟨z, ks, k a _ rfl e q, r⟩
    · exact .inr ⟨z, ks, k a _ rfl e q, r⟩
  | oi c fs => obtain ⟨a, C, dx, vs, e, c, q, r⟩ := x; exact ⟨a, C, dx, vs, e, c, k a _ rfl e q, r⟩
  | xc c fs => exact x
theorem CeOk.heap {T : Cfg} {B : Bd} {H H' : Hp} {s : Cl} {a : Addr} (x : CeOk T B H s a) (k : ∀ u, H a = some u → H' a = some u) : CeOk T B H' s a := by
  cases s with
  | un => obtain ⟨u, q, r⟩ := x; exact ⟨u, k _ q, r⟩
  | l ds => obtain ⟨xs, q, r⟩ := x; exact ⟨xs, k _ q, r⟩
  | i c fs => obtain ⟨C, dx, vs, c, q, r⟩ := x; exact ⟨C, dx, vs, c, k _ q, r⟩

section
variable {T : Zu} {S : MS} {σ : L2.St} {H : Hp} {B : Bd}
/-- a new object joins the frozen part -/
def Bd.add (B : Bd) (p : Addr) (o : HO) : Bd := { B with G := upd B.G p o }
theorem Bd.le_add {B : Bd} {p : Addr} {o : HO} (h : B.G p = none) : B.le (B.add p o) := by
  refine ⟨fun a u r => ?_, rfl, rfl, fun _ _ r => r, fun _ h => .inl h⟩
  show upd B.G p o a = _
  rw [upd_ne (fun z => by rw [z, h] at r; cases r)]
  exact r
theorem Owns.lv (r : Rl T S σ H B) {i : Nat} {a : Addr} (h : Owns S σ i a) : ∃ u, H a = some u := by
  obtain ⟨⟨s, e, l⟩, q⟩ := h
  have x := r.sl i s e
  rw [q] at x
  cases s with
  | un => cases l
  | va d => cases l
  | xc c fs => cases l
  | ol ds => obtain ⟨a', xs, e', k, _⟩ := x; cases e'; exact ⟨_, k⟩
  | od t kvs => obtain ⟨a', e', ⟨_, ks, k, _⟩ | ⟨_, ks, k, _⟩⟩ := x <;> (cases e'; exact ⟨_, k⟩)
  | oi c fs => obtain ⟨a', C, dx, vs, e', _, k, _⟩ := x; cases e'; exact ⟨_, k⟩
theorem Rl.cellT (r : Rl T S σ H B) {a : Addr} (h : a ∈ B.ρ) : ∃ (n : Nat) (c : Cl) (u : HO), S.sto[n]? = some c ∧ B.ρ[n]? = some a ∧ H a = some u ∧ tupO u = false := by
  obtain ⟨n, hn, e⟩ := List.getElem_of_mem h
  have hs : n < S.sto.length := by rw [r.cl]; exact hn
  have e1 := List.getElem?_eq_getElem hs
  have e2 : B.ρ[n]? = some a := by rw [List.getElem?_eq_getElem hn, e]
  have x := r.ce n S.sto[n] a e1 e2
  cases h : S.sto[n] with
  | un => rw [h] at x e1; obtain ⟨u, k, q⟩ := x; exact ⟨n, _, u, e1, e2, k, q⟩
  | l ds => rw [h] at x e1; obtain ⟨xs, k, _⟩ := x; exact ⟨n, _, _, e1, e2, k, rfl⟩
  | i c fs => rw [h] at x e1; obtain ⟨C, dx, vs, _, k, _⟩ := x; exact ⟨n, _, _, e1, e2, k, rfl⟩
theorem Rl.cellv (r : Rl T S σ H B) {a : Addr} (h : a ∈ B.ρ) : ∃ u, H a = some u := let ⟨_, _, u, _, _, k, _⟩ := r.cellT h; ⟨u, k⟩
theorem Rl.cellG (r : Rl T S σ H B) {a : Addr} (h : a ∈ B.ρ) : B.G a = none := let ⟨n, c, _, e1, e2, _, _⟩ := r.cellT h; (r.fc n c a e1 e2).1
theorem Rl.lno (r : Rl T S σ H B) {a : Addr} (h : B.G a = none) : B.L a = false := by
  cases e : B.L a with
  | false => rfl
  | true => obtain ⟨o, q⟩ := r.lk a e; rw [h] at q; cases q
theorem Rl.alloc (r : Rl T S σ H B) {p : Addr} (hp : H p = none) (o : HO) : Rl T S σ (upd H p o) (B.add p o) := by
  have gp : B.G p = none := by
    cases e : B.G p with
    | none => rfl
    | some u => obtain ⟨_, q⟩ := (r.g p u e).has; rw [q] at hp; cases hp
  have fp : B.F p = none := by
    cases e : B.F p with
    | none => rfl
    | some u => rw [(r.f p u e).1] at hp; cases hp
  have ne : ∀ {a u}, H a = some u → a ≠ p := fun e z => by rw [z, hp] at e; cases e
  have up : ∀ {a u}, H a = some u → upd H p o a = some u := fun e => by rw [upd_ne (ne e)]; exact e
  have le := Bd.le_add (o := o) gp
  refine ⟨r.ln, fun a u e => ?_, fun a e => ?_, fun a u e => ?_, fun i s e => ?_, r.cl, fun n c a e1 e2 => ?_, fun i a h => ?_, fun n c a e1 e2 => ?_, r.ds, r.dc⟩
  · by_cases z : a = p
    · subst z
      have e' : upd B.G a o a = some u := e
      rw [upd_same] at e'; cases e'; exact .inl ⟨r.lno gp, upd_same⟩
    · have e' : upd B.G p o a = some u := e
      rw [upd_ne z] at e'; exact (r.g a u e').mono fun _ => up
  · obtain ⟨u, q⟩ := r.lk a e
    exact ⟨u, le.g a u q⟩
  · obtain ⟨h1, h2⟩ := r.f a u e
    exact ⟨up h1, by show upd B.G p o a = none ∨ _; rw [upd_ne (ne h1)]; exact h2⟩
  · exact ((r.sl i s e).le le).heap fun a u _ _ k => up k
  · exact ((r.ce n c a e1 e2).le le).heap fun u k => up k
  · obtain ⟨h1, h2⟩ := r.fs i a h
    obtain ⟨u, k⟩ := Owns.lv r h
    exact ⟨by show upd B.G p o a = none; rw [upd_ne (ne k)]; exact h1, h2⟩
  · obtain ⟨h1, h2⟩ := r.fc n c a e1 e2
    obtain ⟨u, k⟩ := r.cellv (List.mem_of_getElem? e2)
    exact ⟨by show upd B.G p o a = none; rw [upd_ne (ne k)]; exact h1, h2⟩
/-- an object that nobody looks at is laid beside (an own dict, an exception's object) -/
theorem Rl.beside (r : Rl T S σ H B) {p : Addr} (hp : H p = none) (o : HO) : Rl T S σ (upd H p o) B := by
  have ne : ∀ {a u}, H a = some u → a ≠ p := fun e z => by rw [z, hp] at e; cases e
  have up : ∀ {a u}, H a = some u → upd H p o a = some u := fun e => by rw [upd_ne (ne e)]; exact e
  exact ⟨r.ln, fun a u e => (r.g a u e).mono fun _ => up, r.lk, fun a u e => ⟨up (r.f a u e).1, (r.f a u e).2⟩, fun i s e => (r.sl i s e).heap fun a u _ _ k => up k, r.cl, fun n c a e1 e2 => (r.ce n c a e1 e2).heap fun u k => up k, r.fs, r.fc, r.ds, r.dc⟩
theorem Rl.gnone (r : Rl T S σ H B) {p : Addr} (hp : H p = none) : B.G p = none := by
  cases e : B.G p with
  | none => rfl
  | some u => obtain ⟨_, q⟩ := (r.g p u e).has; rw [q] at hp; cases hp

/-- a slot is set: a value -/
def MS.put (S : MS) (i : Nat) (s : Sl) : MS := { S with env := S.env.set i s }
theorem Rl.set (r : Rl T S σ H B) {i : Nat} {d : D} {v : V} (hi : i < S.env.length) (q : Rep T.toCfg B d v) : Rl T (S.put i (.va d)) (σ.set i (some v)) H B := by
  have ow : ∀ {j a}, Owns (S.put i (.va d)) (σ.set i (some v)) j a → Owns S σ j a := fun {j a} ⟨⟨s, e, l⟩, h⟩ => by
    have e : (S.env.set i (.va d))[j]? = some s := e
    by_cases z : i = j
    · subst z
      rw [List.getElem?_set_self hi] at e
      cases e; cases l
    · rw [List.getElem?_set_ne z] at e h
      exact ⟨⟨s, e, l⟩, h⟩
  refine ⟨?_, r.g, r.lk, r.f, fun j s e => ?_, r.cl, r.ce, fun j a h => r.fs j a (ow h), r.fc, fun j k a h1 h2 => r.ds j k a (ow h1) (ow h2), r.dc⟩
  · show (σ.set i _).length = (S.env.set i _).length
    rw [List.length_set, List.length_set]; exact r.ln
  · have e : (S.env.set i (.va d))[j]? = some s := e
    by_cases z : i = j
    · subst z
      rw [List.getElem?_set_self hi] at e
      cases e
      exact ⟨v, List.getElem?_set_self (by rw [r.ln]; exact hi), q⟩
    · rw [List.getElem?_set_ne z] at e
      rw [List.getElem?_set_ne z]
      exact r.sl j s e
/-- .. a new object of its own -/
theorem Rl.setOwn (r : Rl T S σ H B) {i : Nat} {s : Sl} {p : Addr} {o : HO} (hi : i < S.env.length) (hp : H p = none) (q : SlOk T B (upd H p o) s (some (some (.ref p)))) :
    Rl T (S.put i s) (σ.set i (some (.ref p))) (upd H p o) B := by
  have r0 := r.beside hp o
  have hs : i < σ.length := by rw [r.ln]; exact hi
  have ow : ∀ {j a}, Owns (S.put i s) (σ.set i (some (.ref p))) j a → (j = i ∧ a = p) ∨ (j ≠ i ∧ Owns S σ j a) := fun {j a} ⟨⟨t, e, l⟩, h⟩ => by
    have e : (S.env.set i s)[j]? = some t := e
    by_cases z : i = j
    · subst z
      rw [List.getElem?_set_self hs] at h
      cases h
      exact .inl ⟨rfl, rfl⟩
    · rw [List.getElem?_set_ne z] at e h
      exact .inr ⟨fun q => z q.symm, ⟨t, e, l⟩, h⟩
  have fp : B.F p = none := by
    cases e : B.F p with
    | none => rfl
    | some u => rw [(r.f p u e).1] at hp; cases hp
  have rp : p ∉ B.ρ := fun z => by obtain ⟨u, k⟩ := r.cellv z; rw [hp] at k; cases k
  have np : ∀ {j}, ¬ Owns S σ j p := fun h => by obtain ⟨u, k⟩ := Owns.lv r h; rw [hp] at k; cases k
  refine ⟨?_, r0.g, r0.lk, r0.f, fun j t e => ?_, r0.cl, r0.ce, fun j a h => ?_, r0.fc, fun j k a h1 h2 => ?_, r0.dc⟩
  · show (σ.set i _).length = (S.env.set i _).length
    rw [List.length_set, List.length_set]; exact r.ln
  · have e : (S.env.set i s)[j]? = some t := e
    by_cases z : i = j
    · subst z
      rw [List.getElem?_set_self hi] at e
      cases e
      rw [List.getElem?_set_self hs]
      exact q
    · rw [List.getElem?_set_ne z] at e
      rw [List.getElem?_set_ne z]
      exact r0.sl j t e
  · rcases ow h with ⟨_, rfl⟩ | ⟨_, h⟩
    · exact ⟨r.gnone hp, fp, rp⟩
    · exact r.fs j a h
  · rcases ow h1 with ⟨e1, z1⟩ | ⟨e1, g1⟩
    · rcases ow h2 with ⟨e2, z2⟩ | ⟨e2, g2⟩
      · rw [e1, e2]
      · rw [z1] at g2; exact absurd g2 np
    · rcases ow h2 with ⟨e2, z2⟩ | ⟨e2, g2⟩
      · rw [z2] at g1; exact absurd g1 np
      · exact r.ds j k a g1 g2
/-- a slot's own object changes -/
theorem Rl.mut (r : Rl T S σ H B) {i : Nat} {s s' : Sl} {a : Addr} {o : HO} (hs : S.env[i]? = some s) (hl : s.live = true) (ha : σ[i]? = some (some (.ref a))) (q : SlOk T B (upd H a o) s' (some (some (.ref a)))) :
    Rl T (S.put i s') σ (upd H a o) B := by
  have hi : i < S.env.length := (List.getElem?_eq_some_iff.mp hs).1
  have own : Owns S σ i a := ⟨⟨s, hs, hl⟩, ha⟩
  obtain ⟨ga, fa, ra⟩ := r.fs i a own
  have ow : ∀ {j b}, Owns (S.put i s') σ j b → Owns S σ j b := fun {j b} ⟨⟨t, e, l⟩, h⟩ => by
    have e : (S.env.set i s')[j]? = some t := e
    by_cases z : i = j
    · subst z
      rw [ha] at h; cases h
      exact own
    · rw [List.getElem?_set_ne z] at e
      exact ⟨⟨t, e, l⟩, h⟩
  have up : ∀ {b u}, b ≠ a → H b = some u → upd H a o b = some u := fun z e => by rw [upd_ne z]; exact e
  refine ⟨?_, fun b u e => (r.g b u e).mono fun _ => up (fun z => by rw [z, ga] at e; cases e), r.lk, fun b u e => ⟨up (fun z => by rw [z, fa] at e; cases e) (r.f b u e).1, (r.f b u e).2⟩, fun j t e => ?_, r.cl, fun n c b e1 e2 => ?_, fun j b h => r.fs j b (ow h), r.fc, fun j k b h1 h2 => r.ds j k b (ow h1) (ow h2), r.dc⟩
  · show σ.length = (S.env.set i _).length
    rw [List.length_set]; exact r.ln
  · have e : (S.env.set i s')[j]? = some t := e
    by_cases z : i = j
    · subst z
      rw [List.getElem?_set_self hi] at e
      cases e
      rw [ha]; exact q
    · rw [List.getElem?_set_ne z] at e
      refine (r.sl j t e).heap fun b u l eb k => up (fun w => ?_) k
      subst w
      exact z (r.ds i j b own ⟨⟨t, e, l⟩, eb⟩)
  · exact (r.ce n c b e1 e2).heap fun u k => up (fun w => ra (w ▸ List.mem_of_getElem? e2)) k
/-- a slot's own object joins the frozen part -/
theorem Rl.freeze (r : Rl T S σ H B) {i : Nat} {s : Sl} {a : Addr} {o : HO} {d : D} (hs : S.env[i]? = some s) (hl : s.live = true) (ha : σ[i]? = some (some (.ref a))) (ho : H a = some o) (q : Rep T.toCfg (B.add a o) d (.ref a)) :
    Rl T (S.put i (.va d)) σ H (B.add a o) ∧ B.le (B.add a o) := by
  have hi : i < S.env.length := (List.getElem?_eq_some_iff.mp hs).1
  have own : Owns S σ i a := ⟨⟨s, hs, hl⟩, ha⟩
  obtain ⟨ga, fa, ra⟩ := r.fs i a own
  have le := Bd.le_add (o := o) ga
  have ow : ∀ {j b}, Owns (S.put i (.va d)) σ j b → Owns S σ j b ∧ b ≠ a := fun {j b} ⟨⟨t, e, l⟩, h⟩ => by
    have e : (S.env.set i (.va d))[j]? = some t := e
    by_cases z : i = j
    · subst z
      rw [List.getElem?_set_self hi] at e
      cases e; cases l
    · rw [List.getElem?_set_ne z] at e
      have o2 : Owns S σ j b := ⟨⟨t, e, l⟩, h⟩
      exact ⟨o2, fun w => by subst w; exact z (r.ds i j b own o2)⟩
  refine ⟨⟨?_, fun b u e => ?_, fun b e => ?_, fun b u e => ?_, fun j t e => ?_, r.cl, fun n c b e1 e2 => (r.ce n c b e1 e2).le le, fun j b h => ?_, fun n c b e1 e2 => ?_, fun j k b h1 h2 => r.ds j k b (ow h1).1 (ow h2).1, r.dc⟩, le⟩
  · show σ.length = (S.env.set i _).length
    rw [List.length_set]; exact r.ln
  · have e : upd B.G a o b = some u := e
    by_cases z : b = a
    · subst z; rw [upd_same] at e; cases e; exact .inl ⟨r.lno ga, ho⟩
    · rw [upd_ne z] at e; exact r.g b u e
  · obtain ⟨u, q⟩ := r.lk b e
    exact ⟨u, le.g b u q⟩
  · obtain ⟨h1, h2⟩ := r.f b u e
    exact ⟨h1, by show upd B.G a o b = none ∨ _; rw [upd_ne (fun z => by have e : B.F b = some u := e; rw [z, fa] at e; cases e)]; exact h2⟩
  · have e : (S.env.set i (.va d))[j]? = some t := e
    by_cases z : i = j
    · subst z
      rw [List.getElem?_set_self hi] at e
      cases e
      exact ⟨.ref a, ha, q⟩
    · rw [List.getElem?_set_ne z] at e
      exact (r.sl j t e).le le
  · obtain ⟨h1, h2⟩ := ow h
    obtain ⟨z1, z2⟩ := r.fs j b h1
    exact ⟨by show upd B.G a o b = none; rw [upd_ne h2]; exact z1, z2⟩
  · obtain ⟨z1, z2⟩ := r.fc n c b e1 e2
    exact ⟨by show upd B.G a o b = none; rw [upd_ne (fun z => by rw [z] at e2; exact ra (List.mem_of_getElem? e2))]; exact z1, z2⟩
/-- a tracked tuple is seen -/
theorem Rl.seeTup (r : Rl T S σ H B) {b : Addr} {xs : List V} (hb : H b = some (.tup xs)) : ∃ B', Rl T S σ H B' ∧ B.le B' ∧ B'.G b = some (.tup xs) := by
  cases e : B.G b with
  | some o =>
    have q := r.g b o e
    rcases q with ⟨_, q⟩ | ⟨_, d, ob, q⟩
    · rw [hb] at q; cases q; exact ⟨B, r, .rfl', e⟩
    · rw [hb] at q; cases q
  | none =>
    have nl : ∀ {i a}, Owns S σ i a → a ≠ b := fun {i a} ⟨⟨s, e1, l⟩, q⟩ z => by
      have x := r.sl i s e1
      rw [q] at x
      subst z
      cases s with
      | un => cases l
      | va d => cases l
      | xc c fs => cases l
      | ol ds => obtain ⟨a', xs, e', k, _⟩ := x; cases e'; rw [hb] at k; cases k
      | od t kvs => obtain ⟨a', e', ⟨_, ks, k, _⟩ | ⟨_, ks, k, _⟩⟩ := x <;> (cases e'; rw [hb] at k; cases k)
      | oi c fs => obtain ⟨a', C, dx, vs, e', _, k, _⟩ := x; cases e'; rw [hb] at k; cases k
    have nc : b ∉ B.ρ := fun h => by
      obtain ⟨n, c, u, _, _, k, q⟩ := r.cellT h
      rw [hb] at k; cases k; cases q
    have le := Bd.le_add (o := .tup xs) e
    refine ⟨B.add b (.tup xs), ⟨r.ln, fun a u q => ?_, fun a q => ?_, fun a u q => ?_, fun i s q => (r.sl i s q).le le, r.cl, fun n c a e1 e2 => (r.ce n c a e1 e2).le le, fun i a h => ?_, fun n c a e1 e2 => ?_, r.ds, r.dc⟩, le, upd_same⟩
    · have q' : upd B.G b (.tup xs) a = some u := q
      by_cases z : a = b
      · subst z; rw [upd_same] at q'; cases q'; exact .inl ⟨r.lno e, hb⟩
      · rw [upd_ne z] at q'; exact r.g a u q'
    · obtain ⟨u, k⟩ := r.lk a q
      exact ⟨u, le.g a u k⟩
    · obtain ⟨h1, h2⟩ := r.f a u q
      refine ⟨h1, ?_⟩
      by_cases z : a = b
      · subst z; rw [hb] at h1; cases h1; exact .inr rfl
      · show upd B.G b _ a = none ∨ _
        rw [upd_ne z]; exact h2
    · obtain ⟨h1, h2⟩ := r.fs i a h
      exact ⟨by show upd B.G b _ a = none; rw [upd_ne (nl h)]; exact h1, h2⟩
    · obtain ⟨h1, h2⟩ := r.fc n c a e1 e2
      exact ⟨by show upd B.G b _ a = none; rw [upd_ne (fun z => by rw [z] at e2; exact nc (List.mem_of_getElem? e2))]; exact h1, h2⟩
end
end Mir
/-! Mir2: the readings of mirrors; names, constants, operators, tests, displays. -/
namespace Mir
open PySem PySem.Spec PyProof.Rows L2

def PostR {α β : Type} (T : Su) (σ : L2.St) (B : Bd) (rel : Bd → α → β → Prop) (Q : β → Hp → Prop) : R α → Prop
  | .ok a S' => ∀ b H' B', Rl T.toZu S' σ H' B' → B.le B' → rel B' a b → Q b H'
  | .ex c fs S' => ∀ C d H' B', T.cls c = some C → XdOk T.toCfg B' d fs → Rl T.toZu S' σ H' B' → B.le B' → T.W (.ref C) d σ H'
  | .st => False
abbrev RelD (T : Su) : Bd → D → V → Prop := fun B => Rep T.toCfg B
abbrev RelDs (T : Su) : Bd → List D → List V → Prop := fun B => RepL T.toCfg B
abbrev RelB : Bd → Bool → Bool → Prop := fun _ a b => a = b
def TEm (T : Su) (e : Exp) : TE := fun σ H Q => ∃ S B, Rl T.toZu S σ H B ∧ PostR T σ B (RelD T) Q (e S)
def TTm (T : Su) (t : Tst) : TT := fun σ H Q => ∃ S B, Rl T.toZu S σ H B ∧ PostR T σ B RelB Q (t S)
def TAm (T : Su) (es : Exps) : TA := fun σ H Q => ∃ S B, Rl T.toZu S σ H B ∧ PostR T σ B (RelDs T) Q (es S)

section
variable {α β γ δ : Type} {T : Su} {σ : L2.St} {H : Hp} {B B1 : Bd} {rel : Bd → α → β → Prop} {rel2 : Bd → γ → δ → Prop} {Q : β → Hp → Prop} {P : δ → Hp → Prop}
theorem PostR.le {r : R α} (h : PostR T σ B rel Q r) (l : B.le B1) : PostR T σ B1 rel Q r := by
  cases r with
  | ok a S => exact fun b H' B' x l' => h b H' B' x (l.trans l')
  | ex c fs S => exact fun C d H' B' e z x l' => h C d H' B' e z x (l.trans l')
  | st => exact h
theorem PostR.imp {r : R α} {Q' : β → Hp → Prop} (h : PostR T σ B rel Q r) (k : ∀ b H', Q b H' → Q' b H') : PostR T σ B rel Q' r := by
  cases r with
  | ok a S => exact fun b H' B' x l' e => k _ _ (h b H' B' x l' e)
  | ex c fs S => exact h
  | st => exact h
/-- one after the other -/
theorem PostR.bind {r : R γ} {f : γ → MS → R α} (h : PostR T σ B rel Q (r.bind f))
    (k : ∀ a S1 b H1 B1, Rl T.toZu S1 σ H1 B1 → B.le B1 → rel2 B1 a b → PostR T σ B1 rel Q (f a S1) → P b H1) : PostR T σ B rel2 P r := by
  cases r with
  | ok a S => exact fun b H' B' x l e => k a S b H' B' x l e (PostR.le (r := f a S) h l)
  | ex c fs S => exact h
  | st => exact h
end
section
variable {X : Cx} {e : Expr}
theorem peI {t t' : TE} (h : PE X e t) (k : ∀ σ H Q, t' σ H Q → t σ H Q) : PE X e t' := ⟨fun pins s σ H Q I q => h.run pins s σ H Q I (k σ H Q q)⟩
theorem ptI {t t' : TT} (h : PT X e t) (k : ∀ σ H Q, t' σ H Q → t σ H Q) : PT X e t' := ⟨fun pins s σ H Q I q => h.run pins s σ H Q I (k σ H Q q)⟩
theorem pwI {t t' : TT} (h : PW X e t) (k : ∀ σ H Q, t' σ H Q → t σ H Q) : PW X e t' := ⟨fun wh pins s σ H Q I q => h.run wh pins s σ H Q I (k σ H Q q)⟩
theorem paI {es : List Expr} {t t' : TA} (h : PA X es t) (k : ∀ σ H Q, t' σ H Q → t σ H Q) : PA X es t' := ⟨fun pos pins s σ H Q I q => h.run pos pins s σ H Q I (k σ H Q q)⟩
theorem psI {st : Stmt} {t t' : TS} (h : PS X st t) (k : ∀ D σ H, t' D σ H → t D σ H) : PS X st t' := ⟨fun pins s σ H D I q => h.run pins s σ H D I (k D σ H q)⟩
theorem pssI {st : List Stmt} {t t' : TS} (h : PSs X st t) (k : ∀ D σ H, t' D σ H → t D σ H) : PSs X st t' := ⟨fun pins s σ H D I q => h.run pins s σ H D I (k D σ H q)⟩
end

/-! ### names, constants -/
def eVar (i : Nat) : Exp := fun S => match S.env[i]? with
  | some (.va d) => .ok d S
  | some (.ol ds) => .ok (.lst ds) (S.put i (.va (.lst ds)))
  | some (.od t kvs) => .ok (.dic t kvs) (S.put i (.va (.dic t kvs)))
  | some (.oi c fs) => .ok (.ins c fs) (S.put i (.va (.ins c fs)))
  | _ => .st
def eC (d : D) : Exp := fun S => .ok d S
theorem dicAt_dic {T : Cfg} {B : Bd} {H : Hp} {a : Addr} {t : Bool} {kvs : List (D × D)} (q : DicAt T B H a t kvs) : ∃ o, H a = some o ∧ dicO o = true ∧ ∀ B', B.le B' → B'.G a = some o → Rep T B' (.dic t kvs) (.ref a) := by
  rcases q with ⟨rfl, ks, k, r⟩ | ⟨rfl, ks, k, r⟩
  · exact ⟨_, k, rfl, fun B' l e => .dic e (r.le l)⟩
  · exact ⟨_, k, rfl, fun B' l e => .dit e (r.le l)⟩
section
variable {X : Cx} {T : Su} {pos : Pos}
theorem var_of {i : Nat} {σ : L2.St} {H : Hp} {Q : VK} (h : TEm T (eVar i) σ H Q) : ∃ v, σ[i]? = some (some v) ∧ Q v H := by
  obtain ⟨S, B, r, h⟩ := h
  unfold eVar at h
  cases e : S.env[i]? with
  | none => rw [e] at h; exact h.elim
  | some s =>
    rw [e] at h
    have x := r.sl i s e
    cases s with
    | un => exact h.elim
    | xc c fs => exact h.elim
    | va d =>
      obtain ⟨v, ev, q⟩ := x
      exact ⟨v, ev, h v H B r .rfl' q⟩
    | ol ds =>
      obtain ⟨a, xs, ev, k, q⟩ := x
      have ga := (r.fs i a ⟨⟨_, e, rfl⟩, ev⟩).1
      obtain ⟨r', l⟩ := r.freeze e rfl ev k (.lst (B := B.add a (.lst xs)) upd_same (q.le (Bd.le_add ga)))
      exact ⟨.ref a, ev, h _ H _ r' l (.lst upd_same (q.le l))⟩
    | od t kvs =>
      obtain ⟨a, ev, q⟩ := x
      have ga := (r.fs i a ⟨⟨_, e, rfl⟩, ev⟩).1
      obtain ⟨o, k, _, mk⟩ := dicAt_dic q
      obtain ⟨r', l⟩ := r.freeze e rfl ev k (mk _ (Bd.le_add ga) upd_same)
      exact ⟨.ref a, ev, h _ H _ r' l (mk _ l upd_same)⟩
    | oi c fs =>
      obtain ⟨a, C, dx, vs, ev, hc, k, q⟩ := x
      have ga := (r.fs i a ⟨⟨_, e, rfl⟩, ev⟩).1
      obtain ⟨r', l⟩ := r.freeze e rfl ev k (.ins (B := B.add a _) hc upd_same (q.le (Bd.le_add ga)))
      exact ⟨.ref a, ev, h _ H _ r' l (.ins hc upd_same (q.le l))⟩
theorem r_var (i : Nat) {x : Str} (hN : X.N[i]? = some x := by rfl) (hv : Vis X.env.scope x := by first | exact Or.inl rfl | exact Or.inr (Or.inl rfl) | exact Or.inr (Or.inr rfl)) (hd : (x == ("__debug__" : Str)) = false := by decide)
    (hcd : (x == ("__classdict__" : Str)) = false := by decide) : PE X (.Name x pos) (TEm T (eVar i)) := peI (pe_var hN hv hd hcd) fun σ H Q h => var_of h
theorem c_of {d : D} {v : V} (hr : ∀ B, Rep T.toCfg B d v) {σ : L2.St} {H : Hp} {Q : VK} (h : TEm T (eC d) σ H Q) : Q v H := by
  obtain ⟨S, B, r, h⟩ := h
  exact h v H B r .rfl' (hr B)
theorem r_int {i j} : PE X (.Constant (.int i) j pos) (TEm T (eC (.int i))) := peI pe_int fun _ _ _ h => c_of (fun _ => .int i) h
theorem r_bl {b j} : PE X (.Constant (.bool b) j pos) (TEm T (eC (.bl b))) := peI pe_bl fun _ _ _ h => c_of (fun _ => .bl b) h
theorem r_non {j} : PE X (.Constant .none j pos) (TEm T (eC .non)) := peI pe_non fun _ _ _ h => c_of (fun _ => .non) h
theorem r_str {x j} : PE X (.Constant (.str x) j pos) (TEm T (eC (.str x))) := peI pe_str fun _ _ _ h => c_of (fun _ => .str x) h
/-- a module's constant -/
theorem r_glob {x : Str} {d : D} {v : V} {u : Value} (hr : ∀ B, Rep T.toCfg B d v) (hg : Gl X x) (hm : X.mg x = some u) (r : RelV v u) (hd : (x == ("__debug__" : Str)) = false := by decide) : PE X (.Name x pos) (TEm T (eC d)) :=
  peI (pe_glob hg hm r hd) fun _ _ _ h => c_of hr h
end

/-! ### operators by values -/
def liftO (S : MS) : Option D → R D
  | some d => .ok d S
  | none => .st
def eBin (g : D → D → Option D) (a b : Exp) : Exp := fun S => (a S).bind fun x S1 => (b S1).bind fun y S2 => liftO S2 (g x y)
def eUn (g : D → Option D) (a : Exp) : Exp := fun S => (a S).bind fun x S1 => liftO S1 (g x)
/-- a rule of values gives what the mirror gives -/
def Bin (T : Cfg) (r : R2) (g : D → D → Option D) : Prop := ∀ {Z S σ H B x y d v w} {Q : VK}, Rl ⟨T, Z⟩ S σ H B → Rep T B x v → Rep T B y w → g x y = some d →
  (∀ u H' B', Rl ⟨T, Z⟩ S σ H' B' → B.le B' → Rep T B' d u → Q u H') → r v w H Q
def Un1 (T : Cfg) (r : V → Hp → VK → Prop) (g : D → Option D) : Prop := ∀ {Z S σ H B x d v} {Q : VK}, Rl ⟨T, Z⟩ S σ H B → Rep T B x v → g x = some d →
  (∀ u H' B', Rl ⟨T, Z⟩ S σ H' B' → B.le B' → Rep T B' d u → Q u H') → r v H Q
theorem liftO_post {T : Su} {σ : L2.St} {B : Bd} {Q : VK} {S : MS} {o : Option D} (h : PostR T σ B (RelD T) Q (liftO S o)) : ∃ d, o = some d ∧ ∀ v H' B', Rl T.toZu S σ H' B' → B.le B' → Rep T.toCfg B' d v → Q v H' := by
  cases o with
  | none => exact h.elim
  | some d => exact ⟨d, rfl, h⟩
section
variable {X : Cx} {T : Su} {pos : Pos} {a b : Expr} {ea eb : Exp} {r : R2} {g : D → D → Option D}
theorem bin_of (hg : Bin T.toCfg r g) {σ : L2.St} {H : Hp} {Q : VK} (h : TEm T (eBin g ea eb) σ H Q) : tOp r (TEm T ea) (TEm T eb) σ H Q := by
  obtain ⟨S, B, rl, h⟩ := h
  refine ⟨S, B, rl, PostR.bind h fun x S1 v H1 B1 r1 l1 q1 h1 => ?_⟩
  refine ⟨S1, B1, r1, PostR.bind h1 fun y S2 w H2 B2 r2 l2 q2 h2 => ?_⟩
  obtain ⟨d, e, k⟩ := liftO_post h2
  exact hg (Z := T.Z) r2 (q1.le l2) q2 e k
theorem r_bin {op : Operator} (ho : OpR X (binaryOp op) r) (hg : Bin T.toCfg r g) (ha : PE X a (TEm T ea)) (hb : PE X b (TEm T eb)) : PE X (.BinOp a op b pos) (TEm T (eBin g ea eb)) :=
  peI (pe_op ho ha hb) fun _ _ _ h => bin_of hg h
theorem r_cmp {op : CmpOp} (ho : OpR X (compareOp op) r) (hg : Bin T.toCfg r g) (ha : PE X a (TEm T ea)) (hb : PE X b (TEm T eb)) (hm : behindInMarks op b = false := by rfl) : PE X (.Compare a [op] [b] pos) (TEm T (eBin g ea eb)) :=
  peI (pe_cmpR ho ha hb hm) fun _ _ _ h => bin_of hg h
theorem un_of {r : V → Hp → VK → Prop} {g : D → Option D} (hg : Un1 T.toCfg r g) {σ : L2.St} {H : Hp} {Q : VK} (h : TEm T (eUn g ea) σ H Q) : tUn r (TEm T ea) σ H Q := by
  obtain ⟨S, B, rl, h⟩ := h
  refine ⟨S, B, rl, PostR.bind h fun x S1 v H1 B1 r1 l1 q1 h1 => ?_⟩
  obtain ⟨d, e, k⟩ := liftO_post h1
  exact hg (Z := T.Z) r1 q1 e k
theorem r_un {op : UnaryOp} {r : V → Hp → VK → Prop} {g : D → Option D} (ho : UnR X (unaryOp op) r) (hg : Un1 T.toCfg r g) (ha : PE X a (TEm T ea)) : PE X (.UnaryOp op a pos) (TEm T (eUn g ea)) :=
  peI (pe_un ho ha) fun _ _ _ h => un_of hg h
end

/-! ### tests -/
def tOf (e : Exp) : Tst := fun S => (e S).bind fun d S1 => match d with
  | .bl b => .ok b S1
  | _ => .st
def tAndM (a b : Tst) : Tst := fun S => (a S).bind fun x S1 => if x = true then b S1 else .ok false S1
def tOrM (a b : Tst) : Tst := fun S => (a S).bind fun x S1 => if x = true then .ok true S1 else b S1
def tNotM (a : Tst) : Tst := fun S => (a S).bind fun x S1 => .ok (!x) S1
def eAnd (a b : Exp) : Exp := fun S => (a S).bind fun d S1 => match d with
  | .bl true => b S1
  | .bl false => .ok (.bl false) S1
  | _ => .st
def eOr (a b : Exp) : Exp := fun S => (a S).bind fun d S1 => match d with
  | .bl true => .ok (.bl true) S1
  | .bl false => b S1
  | _ => .st
def eNot (a : Exp) : Exp := fun S => (a S).bind fun d S1 => match d with
  | .bl x => .ok (.bl (!x)) S1
  | _ => .st
def eIf (t : Tst) (a b : Exp) : Exp := fun S => (t S).bind fun x S1 => if x = true then a S1 else b S1
section
variable {X : Cx} {T : Su} {pos : Pos} {a b c : Expr} {ea eb : Exp} {ta tb : Tst} {rest : List Expr} {r : R2} {g : D → D → Option D}
theorem tOf_of {σ : L2.St} {H : Hp} {Q : Bool → Hp → Prop} (h : TTm T (tOf ea) σ H Q) : TEm T ea σ H fun x H1 => ∃ k, x = .bl k ∧ Q k H1 := by
  obtain ⟨S, B, rl, h⟩ := h
  refine ⟨S, B, rl, PostR.bind h fun x S1 v H1 B1 r1 l1 q1 h1 => ?_⟩
  cases q1 with
  | bl k => exact ⟨k, rfl, h1 k H1 B1 r1 .rfl' rfl⟩
  | non => exact h1.elim
  | int _ => exact h1.elim
  | str _ => exact h1.elim
  | lst _ _ => exact h1.elim
  | scr _ => exact h1.elim
  | tup _ _ => exact h1.elim
  | dic _ _ => exact h1.elim
  | dit _ _ => exact h1.elim
  | ins _ _ _ => exact h1.elim
  | cel _ => exact h1.elim
/-- an expression whose value is a bool, as a test -/
theorem q_val {e : Expr} (h : PE X e (TEm T ea)) (he : ∀ whole, isTrue e X.env whole = (do let v ← whole; standAt e.pos; holding [v] (truthy v)) := by intro _; rfl) : PT X e (TTm T (tOf ea)) :=
  ptI (pt_val h he) fun _ _ _ q => tOf_of q
theorem q_cmp {op : CmpOp} (ho : OpR X (compareOp op) r) (hg : Bin T.toCfg r g) (ha : PE X a (TEm T ea)) (hb : PE X b (TEm T eb)) (hm : behindInMarks op b = false := by rfl) : PT X (.Compare a [op] [b] pos) (TTm T (tOf (eBin g ea eb))) :=
  ptI (pt_cmpR ho ha hb hm) fun _ _ _ q => bin_of hg (tOf_of q)
theorem and_of {σ : L2.St} {H : Hp} {Q : Bool → Hp → Prop} (h : TTm T (tAndM ta tb) σ H Q) : tAnd (TTm T ta) (TTm T tb) σ H Q := by
  obtain ⟨S, B, rl, h⟩ := h
  refine ⟨S, B, rl, PostR.bind h fun x S1 k H1 B1 r1 l1 q1 h1 => ?_⟩
  cases q1
  cases x with
  | true => exact ⟨S1, B1, r1, h1⟩
  | false => exact h1 false H1 B1 r1 .rfl' rfl
theorem or_of {σ : L2.St} {H : Hp} {Q : Bool → Hp → Prop} (h : TTm T (tOrM ta tb) σ H Q) : tOr (TTm T ta) (TTm T tb) σ H Q := by
  obtain ⟨S, B, rl, h⟩ := h
  refine ⟨S, B, rl, PostR.bind h fun x S1 k H1 B1 r1 l1 q1 h1 => ?_⟩
  cases q1
  cases x with
  | true => exact h1 true H1 B1 r1 .rfl' rfl
  | false => exact ⟨S1, B1, r1, h1⟩
theorem q_and1 (ha : PT X a (TTm T ta)) : PW X (.BoolOp .And [a] pos) (TTm T ta) := pw_and1 ha
theorem q_or1 (ha : PT X a (TTm T ta)) : PW X (.BoolOp .Or [a] pos) (TTm T ta) := pw_or1 ha
theorem q_and (ha : PT X a (TTm T ta)) (hb : PW X (.BoolOp .And (b :: rest) pos) (TTm T tb)) : PW X (.BoolOp .And (a :: b :: rest) pos) (TTm T (tAndM ta tb)) := pwI (pw_and ha hb) fun _ _ _ h => and_of h
theorem q_or (ha : PT X a (TTm T ta)) (hb : PW X (.BoolOp .Or (b :: rest) pos) (TTm T tb)) : PW X (.BoolOp .Or (a :: b :: rest) pos) (TTm T (tOrM ta tb)) := pwI (pw_or ha hb) fun _ _ _ h => or_of h
theorem q_not (ha : PT X a (TTm T ta)) : PT X (.UnaryOp .Not a pos) (TTm T (tNotM ta)) := ptI (pt_not ha) fun σ H Q h => by
  obtain ⟨S, B, rl, h⟩ := h
  refine ⟨S, B, rl, PostR.bind h fun x S1 k H1 B1 r1 l1 q1 h1 => ?_⟩
  cases q1
  exact h1 (!x) H1 B1 r1 .rfl' rfl
theorem r_and1 {op} (ha : PE X a (TEm T ea)) : PE X (.BoolOp op [a] pos) (TEm T ea) := pe_one ha
theorem r_and (ha : PE X a (TEm T ea)) (hb : PE X (.BoolOp .And (b :: rest) pos) (TEm T eb)) : PE X (.BoolOp .And (a :: b :: rest) pos) (TEm T (eAnd ea eb)) := peI (pe_and ha hb) fun σ H Q h => by
  obtain ⟨S, B, rl, h⟩ := h
  refine ⟨S, B, rl, PostR.bind h fun x S1 v H1 B1 r1 l1 q1 h1 => ?_⟩
  cases q1 <;> first | exact h1.elim | skip
  rename_i k
  cases k with
  | true => exact ⟨true, rfl, S1, B1, r1, h1⟩
  | false => exact ⟨false, rfl, h1 _ H1 B1 r1 .rfl' (.bl false)⟩
theorem r_or (ha : PE X a (TEm T ea)) (hb : PE X (.BoolOp .Or (b :: rest) pos) (TEm T eb)) : PE X (.BoolOp .Or (a :: b :: rest) pos) (TEm T (eOr ea eb)) := peI (pe_or ha hb) fun σ H Q h => by
  obtain ⟨S, B, rl, h⟩ := h
  refine ⟨S, B, rl, PostR.bind h fun x S1 v H1 B1 r1 l1 q1 h1 => ?_⟩
  cases q1 <;> first | exact h1.elim | skip
  rename_i k
  cases k with
  | true => exact ⟨true, rfl, h1 _ H1 B1 r1 .rfl' (.bl true)⟩
  | false => exact ⟨false, rfl, S1, B1, r1, h1⟩
theorem r_not (ha : PE X a (TEm T ea)) : PE X (.UnaryOp .Not a pos) (TEm T (eNot ea)) := peI (pe_not ha) fun σ H Q h => by
  obtain ⟨S, B, rl, h⟩ := h
  refine ⟨S, B, rl, PostR.bind h fun x S1 v H1 B1 r1 l1 q1 h1 => ?_⟩
  cases q1 <;> first | exact h1.elim | skip
  rename_i k
  exact ⟨k, rfl, h1 _ H1 B1 r1 .rfl' (.bl _)⟩
theorem r_if (hc : PT X c (TTm T ta)) (ha : PE X a (TEm T ea)) (hb : PE X b (TEm T eb)) : PE X (.IfExp c a b pos) (TEm T (eIf ta ea eb)) := peI (pe_ifExp hc ha hb) fun σ H Q h => by
  obtain ⟨S, B, rl, h⟩ := h
  refine ⟨S, B, rl, PostR.bind h fun x S1 k H1 B1 r1 l1 q1 h1 => ?_⟩
  cases q1
  cases x with
  | true => exact ⟨S1, B1, r1, h1⟩
  | false => exact ⟨S1, B1, r1, h1⟩
end

/-! ### argument lists, displays -/
def aNil : Exps := fun S => .ok [] S
def aCons (a : Exp) (as : Exps) : Exps := fun S => (a S).bind fun x S1 => (as S1).bind fun xs S2 => .ok (x :: xs) S2
def eTup (as : Exps) : Exp := fun S => (as S).bind fun xs S1 => if xs.length ≤ sizeLine then .ok (.tup xs) S1 else .st
def eLst (as : Exps) : Exp := fun S => (as S).bind fun xs S1 => if xs.length ≤ sizeLine then .ok (.lst xs) S1 else .st
theorem RepL.length {T : Cfg} {B : Bd} : ∀ {ds : List D} {vs : List V}, RepL T B ds vs → ds.length = vs.length
  | _, _, .nil => rfl
  | _, _, .cons _ t => congrArg (· + 1) t.length
section
variable {X : Cx} {T : Su} {pos : Pos} {e : Expr} {es : List Expr} {ee : Exp} {ees : Exps}
theorem s_nil : PA X [] (TAm T aNil) := paI pa_nil fun σ H Q ⟨S, B, rl, h⟩ => h [] H B rl .rfl' .nil
theorem acons_of {σ : L2.St} {H : Hp} {Q : List V → Hp → Prop} (h : TAm T (aCons ee ees) σ H Q) : tCons (TEm T ee) (TAm T ees) σ H Q := by
  obtain ⟨S, B, rl, h⟩ := h
  refine ⟨S, B, rl, PostR.bind h fun x S1 v H1 B1 r1 l1 q1 h1 => ?_⟩
  refine ⟨S1, B1, r1, PostR.bind h1 fun xs S2 vs H2 B2 r2 l2 q2 h2 => ?_⟩
  exact h2 _ H2 B2 r2 .rfl' (.cons (q1.le l2) q2)
theorem s_cons (ha : PE X e (TEm T ee)) (hr : PA X es (TAm T ees)) (hs : starEach (e :: es) X.env = (false, eval e X.env) :: starEach es X.env := by rfl) : PA X (e :: es) (TAm T (aCons ee ees)) := paI (pa_cons ha hr hs) fun σ H Q h => acons_of h
theorem r_tup {k} (h : PA X es (TAm T ees)) : PE X (.Tuple es k pos) (TEm T (eTup ees)) := peI (pe_tup h) fun σ H Q h => by
  obtain ⟨S, B, rl, h⟩ := h
  refine ⟨S, B, rl, PostR.bind h fun x S1 v H1 B1 r1 l1 q1 h1 => ?_⟩
  by_cases z : x.length ≤ sizeLine
  · rw [if_pos z] at h1
    refine ⟨by rw [← q1.length]; exact z, fun p hp => ?_⟩
    exact h1 _ _ _ (r1.alloc hp _) (Bd.le_add (r1.gnone hp)) (.tup upd_same (q1.le (Bd.le_add (r1.gnone hp))))
  · rw [if_neg z] at h1; exact h1.elim
theorem r_lst (h : PA X es (TAm T ees)) : PE X (.List es pos) (TEm T (eLst ees)) := peI (pe_lst h) fun σ H Q h => by
  obtain ⟨S, B, rl, h⟩ := h
  refine ⟨S, B, rl, PostR.bind h fun x S1 v H1 B1 r1 l1 q1 h1 => ?_⟩
  by_cases z : x.length ≤ sizeLine
  · rw [if_pos z] at h1
    refine ⟨by rw [← q1.length]; exact z, fun p hp => ?_⟩
    exact h1 _ _ _ (r1.alloc hp _) (Bd.le_add (r1.gnone hp)) (.lst upd_same (q1.le (Bd.le_add (r1.gnone hp))))
  · rw [if_neg z] at h1; exact h1.elim
end
end Mir
/-! Mir3: operators and built-ins by values. -/
namespace Mir
open PySem PySem.Spec PyProof.Rows L2

/-! ### what is frozen may be read -/
section
variable {T : Zu} {S : MS} {σ : L2.St} {H : Hp} {B : Bd}
theorem Rl.rd (r : Rl T S σ H B) {a : Addr} {u : HO} (h : B.G a = some u) : Rd H a u := by
  rcases r.g a u h with ⟨_, q⟩ | ⟨_, _, ob, q⟩
  · exact .inl q
  · exact .inr ⟨ob, q⟩
theorem Rl.tup (r : Rl T S σ H B) {a : Addr} {xs : List V} (h : B.G a = some (.tup xs)) : H a = some (.tup xs) := (r.g a _ h).ex rfl
theorem Rl.sqT (r : Rl T S σ H B) {K : PySem.W.Frag} {a : Addr} {xs : List V} (h : B.G a = some (.tup xs)) : SqT K H a xs := .inl (.inl (r.tup h))
theorem Rl.sqL (r : Rl T S σ H B) {K : PySem.W.Frag} {a : Addr} {xs : List V} (h : SqL K B.G a xs) : SqL K H a xs := by
  rcases h with (h | ⟨o, h⟩) | h
  · exact .inl (r.rd h)
  · exact .inl (.inr ⟨o, (r.g a _ h).ex rfl⟩)
  · exact .inr h
theorem Rl.lst (r : Rl T S σ H B) {a : Addr} {xs : List V} (h : B.G a = some (.lst xs)) : H a = some (.lst xs) := (r.g a _ h).ex rfl
end
theorem RepL.get {T : Cfg} {B : Bd} : ∀ {ds : List D} {vs : List V} {i : Nat} {d : D}, RepL T B ds vs → ds[i]? = some d → ∃ v, vs[i]? = some v ∧ Rep T B d v
  | _, _, _, _, .nil, e => by simp at e
  | _, _, 0, _, .cons r _, e => by simp at e; subst e; exact ⟨_, rfl, r⟩
  | _, _, i + 1, d, .cons _ t, e => by
    obtain ⟨u, h1, h2⟩ := RepL.get (i := i) (d := d) t (by simpa using e)
    exact ⟨u, by simpa using h1, h2⟩
theorem RepL.append {T : Cfg} {B : Bd} : ∀ {xs ys : List D} {us ws : List V}, RepL T B xs us → RepL T B ys ws → RepL T B (xs ++ ys) (us ++ ws)
  | _, _, _, _, .nil, s => s
  | _, _, _, _, .cons r t, s => .cons r (RepL.append t s)
theorem RepL.take {T : Cfg} {B : Bd} : ∀ {xs : List D} {us : List V} (n : Nat), RepL T B xs us → RepL T B (xs.take n) (us.take n)
  | _, _, 0, _ => by simp; exact .nil
  | _, _, _ + 1, .nil => by simp; exact .nil
  | _, _, n + 1, .cons r t => .cons r (RepL.take n t)
theorem RepL.drop {T : Cfg} {B : Bd} : ∀ {xs : List D} {us : List V} (n : Nat), RepL T B xs us → RepL T B (xs.drop n) (us.drop n)
  | _, _, 0, r => r
  | _, _, _ + 1, .nil => by simp; exact .nil
  | _, _, n + 1, .cons r t => RepL.drop n t
theorem RepL.reverse {T : Cfg} {B : Bd} {xs : List D} {us : List V} (h : RepL T B xs us) : RepL T B xs.reverse us.reverse := by
  induction xs generalizing us with
  | nil => cases h; exact .nil
  | cons d ds ih => cases h with | cons r t => rw [List.reverse_cons, List.reverse_cons]; exact RepL.append (ih t) (.cons r .nil)
theorem RepL.rep {T : Cfg} {B : Bd} {xs : List D} {us : List V} (h : RepL T B xs us) : ∀ k : Nat, RepL T B (List.replicate k xs).flatten (List.replicate k us).flatten
  | 0 => .nil
  | k + 1 => by
    rw [List.replicate_succ, List.replicate_succ, List.flatten_cons, List.flatten_cons]
    exact RepL.append h (RepL.rep h k)
theorem RepL.set {T : Cfg} {B : Bd} {d : D} {v : V} (q : Rep T B d v) : ∀ {xs : List D} {us : List V} (i : Nat), RepL T B xs us → RepL T B (xs.set i d) (us.set i v)
  | _, _, _, .nil => .nil
  | _, _, 0, .cons _ t => .cons q t
  | _, _, i + 1, .cons r t => .cons r (RepL.set q i t)
theorem RepL.ints {T : Cfg} {B : Bd} : ∀ (ns : List Int), RepL T B (ns.map D.int) (ns.map V.int)
  | [] => .nil
  | n :: ns => .cons (.int n) (RepL.ints ns)
theorem RepL.nil_iff {T : Cfg} {B : Bd} {xs : List D} {us : List V} (h : RepL T B xs us) : us = [] ↔ xs = [] := by
  cases h with
  | nil => exact ⟨fun _ => rfl, fun _ => rfl⟩
  | cons a b => exact ⟨fun e => (nomatch e), fun e => (nomatch e)⟩
/-- the ints of plain data -/
def intsOf : List D → Option (List Int)
  | [] => some []
  | .int i :: ds => (intsOf ds).map (i :: ·)
  | _ :: _ => none
theorem intsOf_eq : ∀ {ds : List D} {ns : List Int}, intsOf ds = some ns → ds = ns.map D.int
  | [], _, h => by cases h; rfl
  | .int i :: ds, ns, h => by
    unfold intsOf at h
    cases e : intsOf ds with
    | none => rw [e] at h; cases h
    | some ms => rw [e] at h; cases h; rw [List.map_cons, intsOf_eq e]
  | .non :: _, _, h => by cases h
  | .bl _ :: _, _, h => by cases h
  | .str _ :: _, _, h => by cases h
  | .lst _ :: _, _, h => by cases h
  | .tup _ :: _, _, h => by cases h
  | .dic _ _ :: _, _, h => by cases h
  | .ins _ _ :: _, _, h => by cases h
  | .cel _ :: _, _, h => by cases h
  | .scr _ :: _, _, h => by cases h
theorem intsOf_map : ∀ ns : List Int, intsOf (ns.map D.int) = some ns
  | [] => rfl
  | n :: ns => by show (intsOf (ns.map D.int)).map (n :: ·) = _; rw [intsOf_map ns]; rfl
theorem RepL.intsV {T : Cfg} {B : Bd} : ∀ {ns : List Int} {vs : List V}, RepL T B (ns.map D.int) vs → vs = ns.map V.int
  | [], _, .nil => rfl
  | n :: ns, _, .cons r t => by
    cases r
    rw [RepL.intsV t]
    rfl
/-- the bools of plain data -/
def blsOf : List D → Option (List Bool)
  | [] => some []
  | .bl i :: ds => (blsOf ds).map (i :: ·)
  | _ :: _ => none
theorem blsOf_eq : ∀ {ds : List D} {ns : List Bool}, blsOf ds = some ns → ds = ns.map D.bl
  | [], _, h => by cases h; rfl
  | .bl i :: ds, ns, h => by
    unfold blsOf at h
    cases e : blsOf ds with
    | none => rw [e] at h; cases h
    | some ms => rw [e] at h; cases h; rw [List.map_cons, blsOf_eq e]
  | .non :: _, _, h => by cases h
  | .int _ :: _, _, h => by cases h
  | .str _ :: _, _, h => by cases h
  | .lst _ :: _, _, h => by cases h
  | .tup _ :: _, _, h => by cases h
  | .dic _ _ :: _, _, h => by cases h
  | .ins _ _ :: _, _, h => by cases h
  | .cel _ :: _, _, h => by cases h
  | .scr _ :: _, _, h => by cases h
theorem blsOf_map : ∀ ns : List Bool, blsOf (ns.map D.bl) = some ns
  | [] => rfl
  | n :: ns => by show (blsOf (ns.map D.bl)).map (n :: ·) = _; rw [blsOf_map ns]; rfl
theorem RepL.blsV {T : Cfg} {B : Bd} : ∀ {ns : List Bool} {vs : List V}, RepL T B (ns.map D.bl) vs → vs = ns.map V.bl
  | [], _, .nil => rfl
  | n :: ns, _, .cons r t => by
    cases r
    rw [RepL.blsV t]
    rfl

/-! ### arithmetic -/
def intO (C : Int → Int → Prop) [∀ i j, Decidable (C i j)] (f : Int → Int → D) : D → D → Option D
  | .int i, .int j => if C i j then some (f i j) else none
  | _, _ => none
def addO : D → D → Option D
  | .int i, .int j => some (.int (i + j))
  | .str a, .str b => if a.length + b.length ≤ sizeLine then some (.str (a ++ b)) else none
  | .tup xs, .tup ys => if xs.length + ys.length ≤ sizeLine then some (.tup (xs ++ ys)) else none
  | .lst xs, .lst ys => if xs.length + ys.length ≤ sizeLine then some (.lst (xs ++ ys)) else none
  | _, _ => none
def subO : D → D → Option D
  | .int i, .int j => some (.int (i - j))
  | _, _ => none
instance (i j : Int) : Decidable (CMul i j) := inferInstanceAs (Decidable ((-(2 ^ 64) < i ∧ i < 2 ^ 64) ∨ (-(2 ^ 64) < j ∧ j < 2 ^ 64)))
instance (i j : Int) : Decidable (CDiv i j) := inferInstanceAs (Decidable (0 < j ∧ j < 1073741824))
instance (i j : Int) : Decidable (CPow i j) := inferInstanceAs (Decidable (0 ≤ j ∧ j ≤ 1000000 ∧ i.natAbs < 2 ^ 64))
def mulO : D → D → Option D
  | .int i, .int j => if CMul i j then some (.int (i * j)) else none
  | .lst xs, .int k => if -(2 ^ 63) ≤ k ∧ k < 2 ^ 63 ∧ xs.length * k.toNat ≤ sizeLine then some (.lst (List.replicate k.toNat xs).flatten) else none
  | _, _ => none
def fdivO : D → D → Option D
  | .int i, .int j => if CDiv i j then some (.int (i / j)) else none
  | _, _ => none
def modO : D → D → Option D
  | .int i, .int j => if 0 < j then some (.int (i % j)) else none
  | _, _ => none
def powO : D → D → Option D
  | .int i, .int j => if CPow i j then some (.int (i ^ j.toNat)) else none
  | _, _ => none
def negO : D → Option D
  | .int i => some (.int (-i))
  | _ => none
def ltO : D → D → Option D
  | .int i, .int j => some (.bl (decide (i < j)))
  | _, _ => none
def leO : D → D → Option D
  | .int i, .int j => some (.bl (decide (i ≤ j)))
  | _, _ => none
def gtO : D → D → Option D
  | .int i, .int j => some (.bl (decide (j < i)))
  | _, _ => none
def geO : D → D → Option D
  | .int i, .int j => some (.bl (decide (j ≤ i)))
  | _, _ => none

section
variable {T : Cfg}
theorem bin_ii {r : R2} {f : Int → Int → V} {g : D → D → Option D} {fd : Int → Int → D} (C : Int → Int → Prop) (hg : ∀ x y d, g x y = some d → ∃ i j, x = .int i ∧ y = .int j ∧ C i j ∧ d = fd i j) (hf : ∀ B i j, Rep T B (fd i j) (f i j))
    (hr : ∀ i j H (Q : VK), C i j → Q (f i j) H → r (.int i) (.int j) H Q) : Bin T r g := by
  intro Z S σ H B x y d v w Q rl q1 q2 e k
  obtain ⟨i, j, rfl, rfl, c, rfl⟩ := hg x y d e
  cases q1
  cases q2
  exact hr i j H Q c (k _ H B rl .rfl' (hf B i j))
theorem g_sub : Bin T (rI0 fun i j => .int (i - j)) subO := bin_ii (fun _ _ => True) (fun x y d h => by
  cases x <;> cases y <;> first | (cases h; done) | skip
  rename_i i j
  have h' : some (D.int (i - j)) = some d := h
  cases h'
  exact ⟨_, _, rfl, rfl, trivial, rfl⟩) (fun _ _ _ => .int _) fun i j H Q _ q => ⟨i, j, rfl, rfl, q⟩
theorem g_fdiv : Bin T (rI CDiv fun i j => .int (i / j)) fdivO := bin_ii CDiv (fun x y d h => by
  cases x <;> cases y <;> first | (cases h; done) | skip
  rename_i i j
  have h' : (if CDiv i j then some (D.int (i / j)) else none) = some d := h
  by_cases c : CDiv i j
  · rw [if_pos c] at h'; cases h'; exact ⟨_, _, rfl, rfl, c, rfl⟩
  · rw [if_neg c] at h'; cases h') (fun _ _ _ => .int _) fun i j H Q c q => ⟨i, j, rfl, rfl, c, q⟩
theorem g_mod : Bin T (rI (fun _ j => 0 < j) fun i j => .int (i % j)) modO := bin_ii (fun _ j => 0 < j) (fun x y d h => by
  cases x <;> cases y <;> first | (cases h; done) | skip
  rename_i i j
  have h' : (if 0 < j then some (D.int (i % j)) else none) = some d := h
  by_cases c : 0 < j
  · rw [if_pos c] at h'; cases h'; exact ⟨_, _, rfl, rfl, c, rfl⟩
  · rw [if_neg c] at h'; cases h') (fun _ _ _ => .int _) fun i j H Q c q => ⟨i, j, rfl, rfl, c, q⟩
theorem g_pow : Bin T (rI CPow fun i j => .int (i ^ j.toNat)) powO := bin_ii CPow (fun x y d h => by
  cases x <;> cases y <;> first | (cases h; done) | skip
  rename_i i j
  have h' : (if CPow i j then some (D.int (i ^ j.toNat)) else none) = some d := h
  by_cases c : CPow i j
  · rw [if_pos c] at h'; cases h'; exact ⟨_, _, rfl, rfl, c, rfl⟩
  · rw [if_neg c] at h'; cases h') (fun _ _ _ => .int _) fun i j H Q c q => ⟨i, j, rfl, rfl, c, q⟩
theorem g_lt : Bin T (rI0 fun i j => .bl (decide (i < j))) ltO := bin_ii (fun _ _ => True) (fun x y d h => by
  cases x <;> cases y <;> first | (cases h; done) | skip
  rename_i i j
  have h' : some (D.bl (decide (i < j))) = some d := h
  cases h'
  exact ⟨_, _, rfl, rfl, trivial, rfl⟩) (fun _ _ _ => .bl _) fun i j H Q _ q => ⟨i, j, rfl, rfl, q⟩
theorem g_le : Bin T (rI0 fun i j => .bl (decide (i ≤ j))) leO := bin_ii (fun _ _ => True) (fun x y d h => by
  cases x <;> cases y <;> first | (cases h; done) | skip
  rename_i i j
  have h' : some (D.bl (decide (i ≤ j))) = some d := h
  cases h'
  exact ⟨_, _, rfl, rfl, trivial, rfl⟩) (fun _ _ _ => .bl _) fun i j H Q _ q => ⟨i, j, rfl, rfl, q⟩
theorem g_gt : Bin T (rI0 fun i j => .bl (decide (j < i))) gtO := bin_ii (fun _ _ => True) (fun x y d h => by
  cases x <;> cases y <;> first | (cases h; done) | skip
  rename_i i j
  have h' : some (D.bl (decide (j < i))) = some d := h
  cases h'
  exact ⟨_, _, rfl, rfl, trivial, rfl⟩) (fun _ _ _ => .bl _) fun i j H Q _ q => ⟨i, j, rfl, rfl, q⟩
theorem g_ge : Bin T (rI0 fun i j => .bl (decide (j ≤ i))) geO := bin_ii (fun _ _ => True) (fun x y d h => by
  cases x <;> cases y <;> first | (cases h; done) | skip
  rename_i i j
  have h' : some (D.bl (decide (j ≤ i))) = some d := h
  cases h'
  exact ⟨_, _, rfl, rfl, trivial, rfl⟩) (fun _ _ _ => .bl _) fun i j H Q _ q => ⟨i, j, rfl, rfl, q⟩
theorem g_neg : Un1 T (rU fun i => .int (-i)) negO := by
  intro Z S σ H B x d v Q rl q e k
  cases q <;> first | (cases e; done) | skip
  rename_i i
  have e' : some (D.int (-i)) = some d := e
  cases e'
  exact ⟨i, rfl, k _ H B rl .rfl' (.int _)⟩

/-- what + is, by values -/
def rAddM (K : PySem.W.Frag) : R2 := fun x y H Q => (rI0 (fun i j => .int (i + j)) x y H Q ∨ (∃ i j, x = .str i ∧ y = .str j ∧ i.length + j.length ≤ sizeLine ∧ Q (.str (i ++ j)) H)) ∨ (rCatA K x y H Q ∨ rCat x y H Q)
theorem op_addM {X : Cx} : OpR X (binaryOp .Add) (rAddM X.K) := OpR.or (OpR.or op_add op_add_str) (OpR.or op_catA op_cat)
theorem g_add : Bin T (rAddM T.K) addO := by
  intro Z S σ H B x y d v w Q rl q1 q2 e k
  cases q1 <;> cases q2 <;> first | (cases e; done) | skip
  · rename_i i j
    have e' : some (D.int (i + j)) = some d := e
    cases e'
    exact .inl (.inl ⟨i, j, rfl, rfl, k _ H B rl .rfl' (.int _)⟩)
  · rename_i i j
    have e' : (if i.length + j.length ≤ sizeLine then some (D.str (i ++ j)) else none) = some d := e
    by_cases c : i.length + j.length ≤ sizeLine
    · rw [if_pos c] at e'; cases e'
      exact .inl (.inr ⟨i, j, rfl, rfl, c, k _ H B rl .rfl' (.str _)⟩)
    · rw [if_neg c] at e'; cases e'
  · rename_i xs a us ha ra ys b ws hb rb
    have e' : (if xs.length + ys.length ≤ sizeLine then some (D.lst (xs ++ ys)) else none) = some d := e
    by_cases c : xs.length + ys.length ≤ sizeLine
    · rw [if_pos c] at e'; cases e'
      refine .inr (.inr ⟨a, b, us, ws, rfl, rfl, rl.lst ha, rl.lst hb, by rw [← ra.length, ← rb.length]; exact c, fun p hp => ?_⟩)
      have l := Bd.le_add (o := .lst (us ++ ws)) (rl.gnone hp)
      exact k _ _ _ (rl.alloc hp _) l (.lst upd_same (RepL.append (ra.le l) (rb.le l)))
    · rw [if_neg c] at e'; cases e'
  · rename_i xs a us ha ra ys b ws hb rb
    have e' : (if xs.length + ys.length ≤ sizeLine then some (D.tup (xs ++ ys)) else none) = some d := e
    by_cases c : xs.length + ys.length ≤ sizeLine
    · rw [if_pos c] at e'; cases e'
      refine .inr (.inl ⟨a, b, us, ws, rfl, rfl, rl.sqT ha, rl.sqT hb, by rw [← ra.length, ← rb.length]; exact c, fun z => ?_, fun z z2 => ?_, fun _ _ p hp => ?_⟩)
      · have z' := ra.nil_iff.mp z
        subst z'
        exact k _ H B rl .rfl' (.tup hb rb)
      · have z' := rb.nil_iff.mp z2
        subst z'
        rw [List.append_nil] at k
        exact k _ H B rl .rfl' (.tup ha ra)
      · have l := Bd.le_add (o := .tup (us ++ ws)) (rl.gnone hp)
        exact k _ _ _ (rl.alloc hp _) l (.tup upd_same (RepL.append (ra.le l) (rb.le l)))
    · rw [if_neg c] at e'; cases e'
def rMulM : R2 := fun x y H Q => rI CMul (fun i j => .int (i * j)) x y H Q ∨ rRep x y H Q
theorem op_mulM {X : Cx} : OpR X (binaryOp .Mult) rMulM := OpR.or op_mul op_rep
theorem g_mul : Bin T rMulM mulO := by
  intro Z S σ H B x y d v w Q rl q1 q2 e k
  cases q1 <;> cases q2 <;> first | (cases e; done) | skip
  · rename_i i j
    have e' : (if CMul i j then some (D.int (i * j)) else none) = some d := e
    by_cases c : CMul i j
    · rw [if_pos c] at e'; cases e'
      exact .inl ⟨i, j, rfl, rfl, c, k _ H B rl .rfl' (.int _)⟩
    · rw [if_neg c] at e'; cases e'
  · rename_i xs a us ha ra j
    have e' : (if -(2 ^ 63) ≤ j ∧ j < 2 ^ 63 ∧ xs.length * j.toNat ≤ sizeLine then some (D.lst (List.replicate j.toNat xs).flatten) else none) = some d := e
    by_cases c : -(2 ^ 63) ≤ j ∧ j < 2 ^ 63 ∧ xs.length * j.toNat ≤ sizeLine
    · rw [if_pos c] at e'; cases e'
      refine .inr ⟨a, j, us, rfl, rfl, rl.lst ha, c.1, c.2.1, by rw [← ra.length]; exact c.2.2, fun p hp => ?_⟩
      have l := Bd.le_add (o := .lst (List.replicate j.toNat us).flatten) (rl.gnone hp)
      exact k _ _ _ (rl.alloc hp _) l (.lst upd_same (RepL.rep (ra.le l) _))
    · rw [if_neg c] at e'; cases e'
end

/-! ### == of data -/
mutual
def D.py : D → PyData
  | .non => .none
  | .bl b => .bool b
  | .int i => .int i
  | .str s => .str s
  | .lst ds => .list (D.pyL ds)
  | .tup ds => .tuple (D.pyL ds)
  | .dic _ _ => .dict []
  | .ins _ _ => .dict []
  | .cel _ => .dict []
  | .scr _ => .dict []
def D.pyL : List D → List PyData
  | [] => []
  | d :: ds => d.py :: D.pyL ds
end
mutual
/-- data of nesting up to n -/
def D.ok : D → Nat → Bool
  | .non, _ => true
  | .bl _, _ => true
  | .int _, _ => true
  | .str s, _ => PyData.strOk s
  | .lst ds, n => match n with
    | 0 => false
    | m + 1 => D.okL ds m
  | .tup ds, n => match n with
    | 0 => false
    | m + 1 => D.okL ds m
  | .dic _ _, _ => false
  | .ins _ _, _ => false
  | .cel _, _ => false
  | .scr _, _ => false
def D.okL : List D → Nat → Bool
  | [], _ => true
  | d :: ds, n => d.ok n && D.okL ds n
end
mutual
theorem ok_lay : ∀ (d : D) (n : Nat), d.ok n = true → d.py.canLay0 = true ∧ d.py.depth ≤ n
  | .non, _, _ => by simp [D.py, PyData.canLay0, PyData.depth]
  | .bl _, _, _ => by simp [D.py, PyData.canLay0, PyData.depth]
  | .int _, _, _ => by simp [D.py, PyData.canLay0, PyData.depth]
  | .str s, _, h => by simpa [D.py, PyData.canLay0, PyData.depth, D.ok] using h
  | .lst ds, 0, h => by simp [D.ok] at h
  | .lst ds, n + 1, h => by
    have h' : D.okL ds n = true := by simpa [D.ok] using h
    obtain ⟨a, b⟩ := ok_layL ds n h'
    simp only [D.py, PyData.canLay0, PyData.depth]
    exact ⟨a, by omega⟩
  | .tup ds, 0, h => by simp [D.ok] at h
  | .tup ds, n + 1, h => by
    have h' : D.okL ds n = true := by simpa [D.ok] using h
    obtain ⟨a, b⟩ := ok_layL ds n h'
    simp only [D.py, PyData.canLay0, PyData.depth]
    exact ⟨a, by omega⟩
  | .dic _ _, _, h => by simp [D.ok] at h
  | .ins _ _, _, h => by simp [D.ok] at h
  | .cel _, _, h => by simp [D.ok] at h
  | .scr _, _, h => by simp [D.ok] at h
theorem ok_layL : ∀ (ds : List D) (n : Nat), D.okL ds n = true → PyData.canLayAll0 (D.pyL ds) = true ∧ PyData.depthAll (D.pyL ds) ≤ n
  | [], _, _ => by simp [D.pyL, PyData.canLayAll0, PyData.depthAll]
  | d :: ds, n, h => by
    have h' : d.ok n = true ∧ D.okL ds n = true := by simpa [D.okL, Bool.and_eq_true] using h
    obtain ⟨a, b⟩ := ok_lay d n h'.1
    obtain ⟨a', b'⟩ := ok_layL ds n h'.2
    simp only [D.pyL, PyData.canLayAll0, PyData.depthAll, a, a', Bool.and_self]
    exact ⟨trivial, by omega⟩
end
theorem ok_shaped {d : D} (h : d.ok 60 = true) : SeqAt.shaped d.py = true := by
  obtain ⟨a, b⟩ := ok_lay d 60 h
  show (d.py.canLay0 && decide (d.py.depth ≤ 64)) = true
  rw [a, decide_eq_true (by omega)]
  rfl
section
variable {T : Zu} {S : MS} {σ : L2.St} {H : Hp} {B : Bd}
mutual
theorem Rep.dp (rl : Rl T S σ H B) : ∀ {d : D} {v : V} {n : Nat}, Rep T.toCfg B d v → d.ok n = true → Dp T.K H v d.py
  | _, _, _, .non, _ => by unfold D.py; exact .non
  | _, _, _, .bl b, _ => by unfold D.py; exact .bl b
  | _, _, _, .int i, _ => by unfold D.py; exact .int i
  | _, _, _, .str s, _ => by unfold D.py; exact .str s
  | _, _, 0, .lst _ _, h => by simp [D.ok] at h
  | _, _, n + 1, .lst q r, h => by
    unfold D.py
    exact .lst (SqL.of (rl.lst q)) (r.dp rl (n := n) (by simpa [D.ok] using h))
  | _, _, 0, .tup _ _, h => by simp [D.ok] at h
  | _, _, n + 1, .tup q r, h => by
    unfold D.py
    exact .tup (rl.sqT q) (r.dp rl (n := n) (by simpa [D.ok] using h))
  | _, _, _, .dic _ _, h => by simp [D.ok] at h
  | _, _, _, .dit _ _, h => by simp [D.ok] at h
  | _, _, _, .ins _ _ _, h => by simp [D.ok] at h
  | _, _, _, .cel _, h => by simp [D.ok] at h
  | _, _, _, .scr _, h => by simp [D.ok] at h
theorem RepL.dp (rl : Rl T S σ H B) : ∀ {ds : List D} {vs : List V} {n : Nat}, RepL T.toCfg B ds vs → D.okL ds n = true → DpAll T.K H vs (D.pyL ds)
  | _, _, _, .nil, _ => by unfold D.pyL; exact .nil
  | _, _, n, .cons r t, h => by
    have h' := h
    simp only [D.okL, Bool.and_eq_true] at h'
    unfold D.pyL
    exact .cons (r.dp rl h'.1) (t.dp rl h'.2)
end
end
def eqO (x y : D) : Option D := if x.ok 60 && y.ok 60 then some (.bl (PyData.eqv x.py y.py)) else none
def neO (x y : D) : Option D := if x.ok 60 && y.ok 60 then some (.bl (!PyData.eqv x.py y.py)) else none
section
variable {T : Cfg}
theorem g_eq : Bin T (rEqD T.K) eqO := by
  intro Z S σ H B x y d v w Q rl q1 q2 e k
  unfold eqO at e
  by_cases c : (x.ok 60 && y.ok 60) = true
  · rw [if_pos c] at e; cases e
    rw [Bool.and_eq_true] at c
    exact ⟨_, _, Rep.dp rl q1 c.1, Rep.dp rl q2 c.2, ok_shaped c.1, ok_shaped c.2, k _ H B rl .rfl' (.bl _)⟩
  · rw [if_neg c] at e; cases e
theorem g_ne : Bin T (rNeD T.K) neO := by
  intro Z S σ H B x y d v w Q rl q1 q2 e k
  unfold neO at e
  by_cases c : (x.ok 60 && y.ok 60) = true
  · rw [if_pos c] at e; cases e
    rw [Bool.and_eq_true] at c
    exact ⟨_, _, Rep.dp rl q1 c.1, Rep.dp rl q2 c.2, ok_shaped c.1, ok_shaped c.2, k _ H B rl .rfl' (.bl _)⟩
  · rw [if_neg c] at e; cases e
/-- is None -/
def isNO : D → D → Option D
  | .non, .non => some (.bl true)
  | _, .non => some (.bl false)
  | _, _ => none
def notNO : D → D → Option D
  | .non, .non => some (.bl false)
  | _, .non => some (.bl true)
  | _, _ => none
theorem g_isN : Bin T (fun x y H Q => y = .non ∧ Q (.bl (decide (x = .non))) H) isNO := by
  intro Z S σ H B x y d v w Q rl q1 q2 e k
  cases q2 <;> first | (cases x <;> cases e; done) | skip
  refine ⟨rfl, ?_⟩
  cases q1 <;> (cases e; exact k _ H B rl .rfl' (.bl _))
theorem g_notN : Bin T (fun x y H Q => y = .non ∧ Q (.bl (!decide (x = .non))) H) notNO := by
  intro Z S σ H B x y d v w Q rl q1 q2 e k
  cases q2 <;> first | (cases x <;> cases e; done) | skip
  refine ⟨rfl, ?_⟩
  cases q1 <;> (cases e; exact k _ H B rl .rfl' (.bl _))
/-- in: a list of data, a text in a text -/
def inO : D → D → Option D
  | x, .lst ds => if x.ok 60 && (D.lst ds).ok 60 then some (.bl ((D.pyL ds).any fun z => PyData.eqv z x.py)) else none
  | .str i, .str j => some (.bl (!(Builtin.Str.occurrences j i 0 j.length 1).isEmpty))
  | _, _ => none
def notInO : D → D → Option D
  | x, .lst ds => if x.ok 60 && (D.lst ds).ok 60 then some (.bl (!(D.pyL ds).any fun z => PyData.eqv z x.py)) else none
  | .str i, .str j => some (.bl (!(!(Builtin.Str.occurrences j i 0 j.length 1).isEmpty)))
  | _, _ => none
def rInM (K : PySem.W.Frag) : R2 := fun x y H Q => rInD K x y H Q ∨ (∃ i j, x = .str i ∧ y = .str j ∧ Q (.bl (!(Builtin.Str.occurrences j i 0 j.length 1).isEmpty)) H)
def rNotInM (K : PySem.W.Frag) : R2 := fun x y H Q => rNotInD K x y H Q ∨ (∃ i j, x = .str i ∧ y = .str j ∧ Q (.bl (!(!(Builtin.Str.occurrences j i 0 j.length 1).isEmpty))) H)
theorem op_inM {X : Cx} (hu : X.A.units + 65 < cLine) : OpR X (compareOp .In) (rInM X.K) := OpR.or (op_inD hu) op_in_str
theorem op_notInM {X : Cx} (hu : X.A.units + 65 < cLine) : OpR X (compareOp .NotIn) (rNotInM X.K) := OpR.or (op_notInD hu) op_notIn_str
theorem pyL_lst {ds : List D} : (D.lst ds).py = .list (D.pyL ds) := by rw [D.py]
theorem in_lst {K : PySem.W.Frag} {Z : Addr → Value → Option Addr → Prop} {S : MS} {σ : L2.St} {H : Hp} {B : Bd} {x : D} {v w : V} {ds : List D} (rl : Rl ⟨T, Z⟩ S σ H B) (q1 : Rep T B x v) (q2 : Rep T B (.lst ds) w) (c : (x.ok 60 && (D.lst ds).ok 60) = true) :
    Dp T.K H v x.py ∧ Dp T.K H w (.list (D.pyL ds)) ∧ SeqAt.shaped x.py = true ∧ SeqAt.shaped (.list (D.pyL ds)) = true := by
  rw [Bool.and_eq_true] at c
  have h2 := Rep.dp rl q2 c.2
  have h3 := ok_shaped c.2
  rw [pyL_lst] at h2 h3
  exact ⟨Rep.dp rl q1 c.1, h2, ok_shaped c.1, h3⟩
theorem g_in : Bin T (rInM T.K) inO := by
  intro Z S σ H B x y d v w Q rl q1 q2 e k
  have q2' := q2
  cases q2 <;> first | (cases x <;> cases e; done) | skip
  · rename_i s
    cases q1 <;> first | (cases e; done) | skip
    rename_i i
    cases e
    exact .inr ⟨i, s, rfl, rfl, k _ H B rl .rfl' (.bl _)⟩
  · rename_i ds a xs ha ra
    have e' : (if x.ok 60 && (D.lst ds).ok 60 then some (D.bl ((D.pyL ds).any fun z => PyData.eqv z x.py)) else none) = some d := by cases x <;> exact e
    by_cases c : (x.ok 60 && (D.lst ds).ok 60) = true
    · rw [if_pos c] at e'; cases e'
      obtain ⟨h1, h2, h3, h4⟩ := in_lst (K := T.K) rl q1 q2' c
      exact .inl ⟨_, _, h1, h2, h3, h4, k _ H B rl .rfl' (.bl _)⟩
    · rw [if_neg c] at e'; cases e'
theorem g_notIn : Bin T (rNotInM T.K) notInO := by
  intro Z S σ H B x y d v w Q rl q1 q2 e k
  have q2' := q2
  cases q2 <;> first | (cases x <;> cases e; done) | skip
  · rename_i s
    cases q1 <;> first | (cases e; done) | skip
    rename_i i
    cases e
    exact .inr ⟨i, s, rfl, rfl, k _ H B rl .rfl' (.bl _)⟩
  · rename_i ds a xs ha ra
    have e' : (if x.ok 60 && (D.lst ds).ok 60 then some (D.bl (!(D.pyL ds).any fun z => PyData.eqv z x.py)) else none) = some d := by cases x <;> exact e
    by_cases c : (x.ok 60 && (D.lst ds).ok 60) = true
    · rw [if_pos c] at e'; cases e'
      obtain ⟨h1, h2, h3, h4⟩ := in_lst (K := T.K) rl q1 q2' c
      exact .inl ⟨_, _, h1, h2, h3, h4, k _ H B rl .rfl' (.bl _)⟩
    · rw [if_neg c] at e'; cases e'
end
end Mir
/-! Mir4: built-in calls, subscripts, slices, dicts by values. -/
namespace Mir
open PySem PySem.Spec PyProof.Rows L2

/-! ### calls by values -/
def eB (g : List D → Option D) (as : Exps) : Exp := fun S => (as S).bind fun xs S1 => liftO S1 (g xs)
def Bi (T : Cfg) (r : List V → Hp → VK → Prop) (g : List D → Option D) : Prop := ∀ {Z S σ H B xs d vs} {Q : VK}, Rl ⟨T, Z⟩ S σ H B → RepL T B xs vs → g xs = some d →
  (∀ u H' B', Rl ⟨T, Z⟩ S σ H' B' → B.le B' → Rep T B' d u → Q u H') → r vs H Q
section
variable {X : Cx} {T : Su} {x : Str} {p pos : Pos} {e : Expr} {es : List Expr} {ees : Exps} {id ty : String} {r : List V → Hp → VK → Prop} {g : List D → Option D}
theorem b_of (hg : Bi T.toCfg r g) {σ : L2.St} {H : Hp} {Q : VK} (h : TEm T (eB g ees) σ H Q) : tCB r (TAm T ees) σ H Q := by
  obtain ⟨S, B, rl, h⟩ := h
  refine ⟨S, B, rl, PostR.bind h fun xs S1 vs H1 B1 r1 l1 q1 h1 => ?_⟩
  obtain ⟨d, e, k⟩ := liftO_post h1
  exact hg (Z := T.Z) r1 q1 e k
theorem r_callB (hc : CallR X (.builtin id) r) (hgb : Bi T.toCfg r g) (hg : Gl X x) (hm : X.mg x = none) (hv : bootBuiltins x = some (.builtin id)) (ha : PA X (e :: es) (TAm T ees)) (hn : x ≠ "__name__" := by decide) (hdb : (x == ("__debug__" : Str)) = false := by decide)
    (he : starEach (e :: es) X.env = (false, eval e X.env) :: starEach es X.env := by rfl) (hpl : (backTo pos (starEach es X.env)).any (·.1) = false := by rfl) : PE X (.Call (.Name x p) (e :: es) [] pos) (TEm T (eB g ees)) :=
  peI (pe_callB hc hg hm hv ha hn hdb he hpl) fun _ _ _ h => b_of hgb h
theorem r_callTy (hc : CallR X (.type ty) r) (hgb : Bi T.toCfg r g) (hg : Gl X x) (hm : X.mg x = none) (hv : bootBuiltins x = some (.type ty)) (ha : PA X (e :: es) (TAm T ees)) (hn : x ≠ "__name__" := by decide) (hdb : (x == ("__debug__" : Str)) = false := by decide)
    (he : starEach (e :: es) X.env = (false, eval e X.env) :: starEach es X.env := by rfl) (hpl : (backTo pos (starEach es X.env)).any (·.1) = false := by rfl) : PE X (.Call (.Name x p) (e :: es) [] pos) (TEm T (eB g ees)) :=
  peI (pe_callTy hc hg hm hv ha hn hdb he hpl) fun _ _ _ h => b_of hgb h
end
theorem RepL.one {T : Cfg} {B : Bd} {x : D} {vs : List V} (h : RepL T B [x] vs) : ∃ v, vs = [v] ∧ Rep T B x v := by
  cases h with | cons a b => cases b; exact ⟨_, rfl, a⟩
theorem RepL.two {T : Cfg} {B : Bd} {x y : D} {vs : List V} (h : RepL T B [x, y] vs) : ∃ v w, vs = [v, w] ∧ Rep T B x v ∧ Rep T B y w := by
  cases h with | cons a b => cases b with | cons c d => cases d; exact ⟨_, _, rfl, a, c⟩

/-! ### keys -/
def D.key : D → Option Key
  | .int i => some (.inl i)
  | .str s => some (.inr s)
  | _ => none
def D.keys : List D → Option (List Key)
  | [] => some []
  | d :: ds => match d.key, D.keys ds with
    | some k, some ks => some (k :: ks)
    | _, _ => none
def D.keyT : D → Option (List Key)
  | .tup ds => D.keys ds
  | _ => none
/-- the same key -/
def D.keq (a b : D) : Bool := match a.key, b.key with
  | some x, some y => decide (x = y)
  | _, _ => match a.keyT, b.keyT with
    | some xs, some ys => decide (xs = ys)
    | _, _ => false
def dlook (kvs : List (D × D)) (k : D) : Option D := (kvs.find? fun p => p.1.keq k).map (·.2)
def dput (kvs : List (D × D)) (k d : D) : List (D × D) := if kvs.any (fun p => p.1.keq k) then kvs.map fun p => if p.1.keq k then (p.1, d) else p else kvs ++ [(k, d)]
/-- a key that a dict of this kind takes -/
def keyFor (t : Bool) (k : D) : Bool := if t then k.keyT.isSome else k.key.isSome
theorem key_kD : ∀ k : Key, (kD k).key = some k
  | .inl _ => rfl
  | .inr _ => rfl
theorem keys_kD : ∀ ks : List Key, D.keys (ks.map kD) = some ks
  | [] => rfl
  | k :: ks => by show (match (kD k).key, D.keys (ks.map kD) with | some k, some ks => some (k :: ks) | _, _ => none) = _; rw [key_kD, keys_kD ks]
theorem key_eq : ∀ {d : D} {k : Key}, d.key = some k → d = kD k
  | .int i, _, h => by cases h; rfl
  | .str s, _, h => by cases h; rfl
  | .non, _, h => by cases h
  | .bl _, _, h => by cases h
  | .lst _, _, h => by cases h
  | .tup _, _, h => by cases h
  | .dic _ _, _, h => by cases h
  | .ins _ _, _, h => by cases h
  | .cel _, _, h => by cases h
  | .scr _, _, h => by cases h
theorem keys_eq : ∀ {ds : List D} {ks : List Key}, D.keys ds = some ks → ds = ks.map kD
  | [], _, h => by cases h; rfl
  | d :: ds, ks, h => by
    unfold D.keys at h
    cases e1 : d.key with
    | none => rw [e1] at h; cases h
    | some k =>
      cases e2 : D.keys ds with
      | none => rw [e1, e2] at h; cases h
      | some r =>
        rw [e1, e2] at h
        cases h
        rw [key_eq e1, keys_eq e2]
        rfl
theorem keyT_eq {d : D} {ks : List Key} (h : d.keyT = some ks) : d = .tup (ks.map kD) := by
  cases d <;> first | (cases h; done) | skip
  rw [keys_eq h]
theorem keq_k {a b : Key} : (kD a).keq (kD b) = decide (a = b) := by
  unfold D.keq
  rw [key_kD, key_kD]
theorem keq_t {a b : List Key} : (D.tup (a.map kD)).keq (.tup (b.map kD)) = decide (a = b) := by
  show (match D.keys (a.map kD), D.keys (b.map kD) with | some xs, some ys => decide (xs = ys) | _, _ => false) = _
  rw [keys_kD, keys_kD]
theorem rep_key {T : Cfg} {B : Bd} {k : Key} {v : V} (h : Rep T B (kD k) v) : v = kV k := by
  cases k <;> (cases h; rfl)
theorem rep_keys {T : Cfg} {B : Bd} : ∀ {ks : List Key} {vs : List V}, RepL T B (ks.map kD) vs → vs = ks.map kV
  | [], _, .nil => rfl
  | k :: ks, _, .cons a b => by rw [rep_key a, rep_keys b]; rfl
theorem key_rep {T : Cfg} {B : Bd} : ∀ k : Key, Rep T B (kD k) (kV k)
  | .inl i => .int i
  | .inr s => .str s
theorem keys_rep {T : Cfg} {B : Bd} : ∀ ks : List Key, RepL T B (ks.map kD) (ks.map kV)
  | [] => .nil
  | k :: ks => .cons (key_rep k) (keys_rep ks)
/-- what two look-ups have in common -/
def RepO (T : Cfg) (B : Bd) : Option D → Option V → Prop
  | some d, some v => Rep T B d v
  | none, none => True
  | _, _ => False
theorem RepK.val {T : Cfg} {B : Bd} (k : Key) : ∀ {kvs : List (D × D)} {ks : List (Key × V)}, RepK T B kvs ks → RepO T B (dlook kvs (kD k)) (valV ks k)
  | _, _, .nil => trivial
  | _, _, .cons (k := k') (d := d) (ds := ds) (v := v) (vs := vs) a b => by
    have ih := RepK.val k b
    by_cases e : k' = k
    · have h1 : dlook ((kD k', d) :: ds) (kD k) = some d := by simp [dlook, List.find?_cons, keq_k, e]
      rw [h1, valV_pos e]
      exact a
    · have h1 : dlook ((kD k', d) :: ds) (kD k) = dlook ds (kD k) := by simp [dlook, List.find?_cons, keq_k, e]
      rw [h1, valV_neg e]
      exact ih
theorem RepT.val {T : Cfg} {B : Bd} (k : List Key) : ∀ {kvs : List (D × D)} {ks : List (List Key × V)}, RepT T B kvs ks → RepO T B (dlook kvs (.tup (k.map kD))) (valV ks k)
  | _, _, .nil => trivial
  | _, _, .cons (k := k') (d := d) (ds := ds) (v := v) (vs := vs) a b => by
    have ih := RepT.val k b
    by_cases e : k' = k
    · have h1 : dlook ((.tup (k'.map kD), d) :: ds) (.tup (k.map kD)) = some d := by simp [dlook, List.find?_cons, keq_t, e]
      rw [h1, valV_pos e]
      exact a
    · have h1 : dlook ((.tup (k'.map kD), d) :: ds) (.tup (k.map kD)) = dlook ds (.tup (k.map kD)) := by simp [dlook, List.find?_cons, keq_t, e]
      rw [h1, valV_neg e]
      exact ih
theorem RepK.append {T : Cfg} {B : Bd} : ∀ {xs ys : List (D × D)} {us ws : List (Key × V)}, RepK T B xs us → RepK T B ys ws → RepK T B (xs ++ ys) (us ++ ws)
  | _, _, _, _, .nil, s => s
  | _, _, _, _, .cons r t, s => .cons r (RepK.append t s)
theorem RepT.append {T : Cfg} {B : Bd} : ∀ {xs ys : List (D × D)} {us ws : List (List Key × V)}, RepT T B xs us → RepT T B ys ws → RepT T B (xs ++ ys) (us ++ ws)
  | _, _, _, _, .nil, s => s
  | _, _, _, _, .cons r t, s => .cons r (RepT.append t s)
theorem RepK.length {T : Cfg} {B : Bd} : ∀ {ds : List (D × D)} {vs : List (Key × V)}, RepK T B ds vs → ds.length = vs.length
  | _, _, .nil => rfl
  | _, _, .cons _ t => congrArg (· + 1) t.length
theorem RepT.length {T : Cfg} {B : Bd} : ∀ {ds : List (D × D)} {vs : List (List Key × V)}, RepT T B ds vs → ds.length = vs.length
  | _, _, .nil => rfl
  | _, _, .cons _ t => congrArg (· + 1) t.length
theorem RepK.put {T : Cfg} {B : Bd} {kvs : List (D × D)} {ks : List (Key × V)} (h : RepK T B kvs ks) (k : Key) {d : D} {v : V} (q : Rep T B d v) : RepK T B (dput kvs (kD k) d) (putK ks k v) := by
  have any : ∀ {kvs : List (D × D)} {ks : List (Key × V)}, RepK T B kvs ks → (kvs.any fun p => p.1.keq (kD k)) = ks.any fun p => decide (p.1 = k) := by
    intro kvs ks h
    induction ks generalizing kvs with
    | nil => cases h; rfl
    | cons p ps ih => cases h with | cons a b => rw [List.any_cons, List.any_cons, ih b, keq_k]
  have map : ∀ {kvs : List (D × D)} {ks : List (Key × V)}, RepK T B kvs ks → RepK T B (kvs.map fun p => if p.1.keq (kD k) then (p.1, d) else p) (ks.map fun kv => if kv.1 = k then (kv.1, v) else kv) := by
    intro kvs ks h
    induction ks generalizing kvs with
    | nil => cases h; exact .nil
    | cons p ps ih =>
      cases h with
      | cons a b =>
        rename_i k' d' ds' v'
        rw [List.map_cons, List.map_cons]
        by_cases e : k' = k
        · rw [if_pos (by rw [keq_k, decide_eq_true e]), if_pos e]
          exact .cons q (ih b)
        · rw [if_neg (by rw [keq_k, decide_eq_false e]; decide), if_neg e]
          exact .cons a (ih b)
  unfold dput putK
  rw [any h]
  by_cases c : (ks.any fun p => decide (p.1 = k)) = true
  · rw [if_pos c, if_pos c]; exact map h
  · rw [if_neg c, if_neg c]; exact RepK.append h (.cons q .nil)
theorem RepT.put {T : Cfg} {B : Bd} {kvs : List (D × D)} {ks : List (List Key × V)} (h : RepT T B kvs ks) (k : List Key) {d : D} {v : V} (q : Rep T B d v) : RepT T B (dput kvs (.tup (k.map kD)) d) (putK ks k v) := by
  have any : ∀ {kvs : List (D × D)} {ks : List (List Key × V)}, RepT T B kvs ks → (kvs.any fun p => p.1.keq (.tup (k.map kD))) = ks.any fun p => decide (p.1 = k) := by
    intro kvs ks h
    induction ks generalizing kvs with
    | nil => cases h; rfl
    | cons p ps ih => cases h with | cons a b => rw [List.any_cons, List.any_cons, ih b, keq_t]
  have map : ∀ {kvs : List (D × D)} {ks : List (List Key × V)}, RepT T B kvs ks → RepT T B (kvs.map fun p => if p.1.keq (.tup (k.map kD)) then (p.1, d) else p) (ks.map fun kv => if kv.1 = k then (kv.1, v) else kv) := by
    intro kvs ks h
    induction ks generalizing kvs with
    | nil => cases h; exact .nil
    | cons p ps ih =>
      cases h with
      | cons a b =>
        rename_i k' d' ds' v'
        rw [List.map_cons, List.map_cons]
        by_cases e : k' = k
        · rw [if_pos (by rw [keq_t, decide_eq_true e]), if_pos e]
          exact .cons q (ih b)
        · rw [if_neg (by rw [keq_t, decide_eq_false e]; decide), if_neg e]
          exact .cons a (ih b)
  unfold dput putK
  rw [any h]
  by_cases c : (ks.any fun p => decide (p.1 = k)) = true
  · rw [if_pos c, if_pos c]; exact map h
  · rw [if_neg c, if_neg c]; exact RepT.append h (.cons q .nil)
theorem dput_length (kvs : List (D × D)) (k d : D) : (dput kvs k d).length ≤ kvs.length + 1 := by
  unfold dput
  split
  · rw [List.length_map]; exact Nat.le_succ _
  · rw [List.length_append]; exact Nat.le_refl _

/-- a look-up, by values -/
theorem dget_of {T : Cfg} {Z : Addr → Value → Option Addr → Prop} {S : MS} {σ : L2.St} {H : Hp} {B : Bd} {t : Bool} {kvs : List (D × D)} {k : D} {v w : V} (rl : Rl ⟨T, Z⟩ S σ H B) (q1 : Rep T B (.dic t kvs) v) (q2 : Rep T B k w) (hk : keyFor t k = true) :
    ∃ a o, v = .ref a ∧ DGet H a w o ∧ RepO T B (dlook kvs k) o := by
  cases q1 with
  | dic hd r =>
    rename_i a ks
    have hk' : k.key.isSome = true := hk
    cases e : k.key with
    | none => rw [e] at hk'; cases hk'
    | some k0 =>
      have e' := key_eq e
      subst e'
      rw [rep_key q2]
      exact ⟨a, _, rfl, .inl ⟨ks, k0, rl.rd hd, rfl, rfl⟩, r.val k0⟩
  | dit hd r =>
    rename_i a ks
    have hk' : k.keyT.isSome = true := hk
    cases e : k.keyT with
    | none => rw [e] at hk'; cases hk'
    | some k0 =>
      have e' := keyT_eq e
      subst e'
      cases q2 with
      | tup hb rb =>
        rename_i b xs
        have hx := rep_keys rb
        subst hx
        exact ⟨a, _, rfl, .inr ⟨ks, k0, b, rl.rd hd, rfl, rl.tup hb, rfl⟩, r.val k0⟩
end Mir
/-! Mir5: subscripts, slices, built-ins of one list or value, isinstance. -/
namespace Mir
open PySem PySem.Spec PyProof.Rows L2

/-! ### a[b] -/
def ixO : D → D → Option D
  | .lst ds, .int i => atI ds i
  | .tup ds, .int i => atI ds i
  | .str z, .int i => if z.length ≤ sizeLine then (atI z.cps.toList i).map fun c => .str ⟨#[c]⟩ else none
  | .scr ns, .int i => (atI ns i).map D.int
  | .dic t kvs, k => if keyFor t k = true then dlook kvs k else none
  | _, _ => none
def rIxD : R2 := fun x y H Q => ∃ a v, x = .ref a ∧ DGet H a y (some v) ∧ Q v H
theorem ix_dict {X : Cx} (hu : X.A.units + 1 < cLine) : IxR X rIxD := by
  intro value slice pins s σ H x y v u Q I rx ry h hs
  obtain ⟨a, z, rfl, g, q⟩ := h
  obtain rfl : v = Value.ref a := rx
  exact tail_any (dict_typeIs I g) PySem.F.slot_dict_getitem.lookup (d_getItem hu I g ry fun w' s3 I3 rw' => ⟨z, H, I3, rw', q⟩) hs
def rIxM (K : PySem.W.Frag) : R2 := fun x y H Q => rIx K x y H Q ∨ rIxD x y H Q
theorem ix_M {X : Cx} (hu : X.A.units + 1 < cLine) : IxR X (rIxM X.K) := ix_seq.or (ix_dict hu)
theorem atI_rep {T : Cfg} {B : Bd} {ds : List D} {vs : List V} {i : Int} {d : D} (h : RepL T B ds vs) (e : atI ds i = some d) : ∃ v, atI vs i = some v ∧ Rep T B d v := by
  unfold atI at *
  rw [← h.length]
  cases e1 : ixN ds.length i with
  | none => rw [e1] at e; cases e
  | some j =>
    rw [e1] at e
    exact h.get (show ds[j]? = some d from e)
theorem atI_map {α β : Type} (f : α → β) (xs : List α) (i : Int) : atI (xs.map f) i = (atI xs i).map f := by
  unfold atI
  rw [List.length_map]
  cases ixN xs.length i with
  | none => rfl
  | some j => show (xs.map f)[j]? = (xs[j]?).map f; rw [List.getElem?_map]
theorem g_ix {T : Cfg} : Bin T (rIxM T.K) ixO := by
  intro Z S σ H B x y d v w Q rl q1 q2 e k
  have q1' := q1
  cases q1
  case lst ds a xs ha ra =>
    cases q2 <;> first | (cases e; done) | skip
    rename_i i
    obtain ⟨z, e2, rz⟩ := atI_rep ra (show atI ds i = some d from e)
    exact .inl (.inl ⟨a, xs, i, z, rfl, rfl, .inl (.inl (rl.lst ha)), e2, k _ H B rl .rfl' rz⟩)
  case tup ds a xs ha ra =>
    cases q2 <;> first | (cases e; done) | skip
    rename_i i
    obtain ⟨z, e2, rz⟩ := atI_rep ra (show atI ds i = some d from e)
    exact .inl (.inr (.inl ⟨a, xs, i, z, rfl, rfl, rl.sqT ha, e2, k _ H B rl .rfl' rz⟩))
  case str z =>
    cases q2 <;> first | (cases e; done) | skip
    rename_i i
    have e' : (if z.length ≤ sizeLine then (atI z.cps.toList i).map fun c => D.str ⟨#[c]⟩ else none) = some d := e
    by_cases c : z.length ≤ sizeLine
    · rw [if_pos c] at e'
      obtain ⟨ch, e2, e3⟩ := Option.map_eq_some_iff.mp e'
      subst e3
      exact .inl (.inr (.inr ⟨z, i, ch, rfl, rfl, c, e2, k _ H B rl .rfl' (.str _)⟩))
    · rw [if_neg c] at e'; cases e'
  case scr ns a ha =>
    cases q2 <;> first | (cases e; done) | skip
    rename_i i
    obtain ⟨n, e2, e3⟩ := Option.map_eq_some_iff.mp (show (atI ns i).map D.int = some d from e)
    subst e3
    exact .inl (.inl ⟨a, _, i, .int n, rfl, rfl, rl.sqL ha, by rw [atI_map, e2]; rfl, k _ H B rl .rfl' (.int _)⟩)
  case dic kvs a ks ha ra =>
    have e' : (if keyFor false y = true then dlook kvs y else none) = some d := by cases y <;> exact e
    by_cases c : keyFor false y = true
    · rw [if_pos c] at e'
      obtain ⟨a', o, e1, g, ro⟩ := dget_of rl q1' q2 c
      rw [e'] at ro
      cases o with
      | none => exact ro.elim
      | some z => exact .inr ⟨a', z, e1, g, k _ H B rl .rfl' ro⟩
    · rw [if_neg c] at e'; cases e'
  case dit kvs a ks ha ra =>
    have e' : (if keyFor true y = true then dlook kvs y else none) = some d := by cases y <;> exact e
    by_cases c : keyFor true y = true
    · rw [if_pos c] at e'
      obtain ⟨a', o, e1, g, ro⟩ := dget_of rl q1' q2 c
      rw [e'] at ro
      cases o with
      | none => exact ro.elim
      | some z => exact .inr ⟨a', z, e1, g, k _ H B rl .rfl' ro⟩
    · rw [if_neg c] at e'; cases e'
  all_goals (cases y <;> cases e)
theorem r_ix {X : Cx} {T : Su} {pos : Pos} {a b : Expr} {ea eb : Exp} (hK : T.K = X.K) (hu : X.A.units + 1 < cLine) (ha : PE X a (TEm T ea)) (hb : PE X b (TEm T eb)) (hs : PlainIx b := by exact fun _ _ => rfl) : PE X (.Subscript a b pos) (TEm T (eBin ixO ea eb)) :=
  peI (pe_ix (hK ▸ ix_M hu) ha hb hs) fun _ _ _ h => bin_of g_ix h

/-! ### in a dict -/
def inDO (neg : Bool) : D → D → Option D
  | k, .dic t kvs => if keyFor t k = true then some (.bl (if neg then !(dlook kvs k).isSome else (dlook kvs k).isSome)) else none
  | _, _ => none
def rInDic (neg : Bool) : R2 := fun y x H Q => ∃ a o, x = .ref a ∧ DGet H a y o ∧ Q (.bl (if neg then !o.isSome else o.isSome)) H
theorem op_inDic {X : Cx} (hu : X.A.units + 1 < cLine) : OpR X (compareOp .In) (rInDic false) := by
  intro pins s σ H y x u v Q I ry rx h
  obtain ⟨a, o, rfl, g, q⟩ := h
  obtain rfl : v = Value.ref a := rx
  exact d_in hu I g ry fun s3 I3 => ⟨.bl o.isSome, H, I3, rfl, q⟩
theorem op_notInDic {X : Cx} (hu : X.A.units + 1 < cLine) : OpR X (compareOp .NotIn) (rInDic true) := by
  intro pins s σ H y x u v Q I ry rx h
  obtain ⟨a, o, rfl, g, q⟩ := h
  obtain rfl : v = Value.ref a := rx
  exact d_notIn hu I g ry fun s3 I3 => ⟨.bl (!o.isSome), H, I3, rfl, q⟩
theorem RepO.some {T : Cfg} {B : Bd} {o : Option D} {u : Option V} (h : RepO T B o u) : o.isSome = u.isSome := by
  cases o <;> cases u <;> first | rfl | exact h.elim
theorem g_inDic {T : Cfg} (neg : Bool) : Bin T (rInDic neg) (inDO neg) := by
  intro Z S σ H B x y d v w Q rl q1 q2 e k
  have q2' := q2
  cases q2 <;> first | (cases x <;> cases e; done) | skip
  · rename_i kvs a ks ha ra
    have e' : (if keyFor false x = true then some (D.bl (if neg then !(dlook kvs x).isSome else (dlook kvs x).isSome)) else none) = some d := by cases x <;> exact e
    by_cases c : keyFor false x = true
    · rw [if_pos c] at e'; cases e'
      obtain ⟨a', o, e1, g, ro⟩ := dget_of rl q2' q1 c
      refine ⟨a', o, e1, g, ?_⟩
      rw [← ro.some]
      exact k _ H B rl .rfl' (.bl _)
    · rw [if_neg c] at e'; cases e'
  · rename_i kvs a ks ha ra
    have e' : (if keyFor true x = true then some (D.bl (if neg then !(dlook kvs x).isSome else (dlook kvs x).isSome)) else none) = some d := by cases x <;> exact e
    by_cases c : keyFor true x = true
    · rw [if_pos c] at e'; cases e'
      obtain ⟨a', o, e1, g, ro⟩ := dget_of rl q2' q1 c
      refine ⟨a', o, e1, g, ?_⟩
      rw [← ro.some]
      exact k _ H B rl .rfl' (.bl _)
    · rw [if_neg c] at e'; cases e'

/-! ### slices -/
abbrev Par := MS → R (Option Int)
def pNo : Par := fun S => .ok none S
def pSome (e : Exp) : Par := fun S => (e S).bind fun d S1 => match d with
  | .int i => .ok (some i) S1
  | _ => .st
def cutL {α : Type} (xs : List α) (lo hi : Option Int) : List α := (xs.drop (HT.sIx xs.length 0 lo)).take (HT.sIx xs.length xs.length hi - HT.sIx xs.length 0 lo)
def slO (lo hi : Option Int) : D → Option D
  | .lst ds => some (.lst (cutL ds lo hi))
  | .tup ds => some (.tup (cutL ds lo hi))
  | .str z => if z.length ≤ sizeLine then some (.str (cutS z lo hi)) else none
  | _ => none
def eSl (a : Exp) (lo hi : Par) : Exp := fun S => (a S).bind fun x S1 => (lo S1).bind fun l S2 => (hi S2).bind fun h S3 => liftO S3 (slO l h x)
def TOm (T : Su) (t : Par) : TO := fun σ H Q => ∃ S B, Rl T.toZu S σ H B ∧ PostR T σ B (fun _ a b => a = b) Q (t S)
theorem poI {X : Cx} {e : Option Expr} {t t' : TO} (h : PO X e t) (k : ∀ σ H Q, t' σ H Q → t σ H Q) : PO X e t' := ⟨fun pins s σ H Q I q => h.run pins s σ H Q I (k σ H Q q)⟩
theorem cutL_rep {T : Cfg} {B : Bd} {ds : List D} {vs : List V} (h : RepL T B ds vs) (lo hi : Option Int) : RepL T B (cutL ds lo hi) (cutV vs lo hi) := by
  unfold cutL cutV
  rw [← h.length]
  exact RepL.take _ (RepL.drop _ h)
def rSlM (K : PySem.W.Frag) : V → Option Int → Option Int → Hp → VK → Prop := fun x lo hi H Q => (rSlL K x lo hi H Q ∨ rSlA K x lo hi H Q) ∨ rSlS x lo hi H Q
theorem sl_M {X : Cx} : SlR X (rSlM X.K) := SlR.or (SlR.or sl_list sl_tupA) sl_str
section
variable {X : Cx} {T : Su} {pos p2 : Pos} {a e : Expr} {lo hi : Option Expr} {ea ee : Exp} {tl th : Par}
theorem o_no : PO X none (TOm T pNo) := poI po_none fun σ H Q ⟨S, B, rl, h⟩ => h none H B rl .rfl' rfl
theorem o_some (h : PE X e (TEm T ee)) : PO X (some e) (TOm T (pSome ee)) := poI (po_some h) fun σ H Q ⟨S, B, rl, h⟩ => by
  refine ⟨S, B, rl, PostR.bind h fun x S1 v H1 B1 r1 l1 q1 h1 => ?_⟩
  cases q1 <;> first | exact h1.elim | skip
  rename_i i
  exact ⟨i, rfl, h1 (some i) H1 B1 r1 .rfl' rfl⟩
theorem r_sl (hK : T.K = X.K) (ha : PE X a (TEm T ea)) (hl : PO X lo (TOm T tl)) (hh : PO X hi (TOm T th)) : PE X (.Subscript a (.Slice lo hi none p2) pos) (TEm T (eSl ea tl th)) := peI (pe_slice (hK ▸ sl_M) ha hl hh) fun σ H Q h => by
  obtain ⟨S, B, rl, h⟩ := h
  refine ⟨S, B, rl, PostR.bind h fun x S1 v H1 B1 r1 l1 q1 h1 => ?_⟩
  refine ⟨S1, B1, r1, PostR.bind h1 fun l S2 l' H2 B2 r2 l2 e2 h2 => ?_⟩
  subst e2
  refine ⟨S2, B2, r2, PostR.bind h2 fun h' S3 h'' H3 B3 r3 l3 e3 h3 => ?_⟩
  subst e3
  obtain ⟨d, e, k⟩ := liftO_post h3
  have q3 := (q1.le l2).le l3
  cases q3 <;> first | (cases e; done) | skip
  · rename_i z
    have e' : (if z.length ≤ sizeLine then some (D.str (cutS z l h')) else none) = some d := e
    by_cases c : z.length ≤ sizeLine
    · rw [if_pos c] at e'; cases e'
      exact .inr ⟨z, rfl, c, k _ H3 B3 r3 .rfl' (.str _)⟩
    · rw [if_neg c] at e'; cases e'
  · rename_i ds a xs ha ra
    cases (show some (D.lst (cutL ds l h')) = some d from e)
    refine .inl (.inl ⟨a, xs, rfl, .inl (.inl (r3.lst ha)), fun p hp => ?_⟩)
    have le := Bd.le_add (o := .lst (cutV xs l h')) (r3.gnone hp)
    exact k _ _ _ (r3.alloc hp _) le (.lst upd_same (cutL_rep (ra.le le) _ _))
  · rename_i ds a xs ha ra
    cases (show some (D.tup (cutL ds l h')) = some d from e)
    refine .inl (.inr ⟨a, xs, rfl, r3.sqT ha, fun w => ?_, fun _ p hp => ?_⟩)
    · have hw : cutL ds l h' = ds := by
        unfold cutL
        rw [ra.length, w.1, w.2, List.drop_zero, Nat.sub_zero, ← ra.length, List.take_length]
      rw [hw] at k
      exact k _ H3 B3 r3 .rfl' (.tup ha ra)
    · have le := Bd.le_add (o := .tup (cutV xs l h')) (r3.gnone hp)
      exact k _ _ _ (r3.alloc hp _) le (.tup upd_same (cutL_rep (ra.le le) _ _))
/-- xs[::-1] of a list -/
def revO : D → Option D
  | .lst ds => some (.lst ds.reverse)
  | _ => none
theorem r_rev {k : Nat} {p1 p3 p4 : Pos} (hK : T.K = X.K) (ha : PE X a (TEm T ea)) : PE X (.Subscript a (.Slice none none (some (.UnaryOp .USub (.Constant (.int 1) k p1) p4)) p3) pos) (TEm T (eUn revO ea)) := peI (pe_revL ha) fun σ H Q h => by
  obtain ⟨S, B, rl, h⟩ := h
  refine ⟨S, B, rl, PostR.bind h fun x S1 v H1 B1 r1 l1 q1 h1 => ?_⟩
  obtain ⟨d, e, k⟩ := liftO_post h1
  cases q1 <;> first | (cases e; done) | skip
  rename_i ds a xs ha ra
  cases (show some (D.lst ds.reverse) = some d from e)
  refine ⟨a, xs, rfl, .inl (.inl (r1.lst ha)), fun p hp => ?_⟩
  have le := Bd.le_add (o := .lst xs.reverse) (r1.gnone hp)
  exact k _ _ _ (r1.alloc hp _) le (.lst upd_same (RepL.reverse (ra.le le)))
end

/-- a call of one value, of two -/
def one (g : D → Option D) : List D → Option D
  | [x] => g x
  | _ => none
def oneTwo (g : D → Option D) (h : D → D → Option D) : List D → Option D
  | [x] => g x
  | [x, y] => h x y
  | _ => none
theorem bi_one {T : Cfg} {r : List V → Hp → VK → Prop} {g : D → Option D} (h : Un1 T (fun v => r [v]) g) : Bi T r (one g) := by
  intro Z S σ H B xs d vs Q rl q e k
  cases q with
  | nil => cases e
  | cons q1 q2 =>
    cases q2 with
    | nil => exact h rl q1 e k
    | cons _ _ => cases e
theorem bi_oneTwo {T : Cfg} {r : List V → Hp → VK → Prop} {g : D → Option D} {g2 : D → D → Option D} (h : Un1 T (fun v => r [v]) g) (h2 : Bin T (fun v w => r [v, w]) g2) : Bi T r (oneTwo g g2) := by
  intro Z S σ H B xs d vs Q rl q e k
  cases q with
  | nil => cases e
  | cons q1 q2 =>
    cases q2 with
    | nil => exact h rl q1 e k
    | cons q2 q3 =>
      cases q3 with
      | nil => exact h2 rl q1 q2 e k
      | cons _ _ => cases e

/-! ### len, abs, int, bool, max, min, sum, any, all, tuple, list, str -/
def lenO : D → Option D
  | .lst ds => some (.int ds.length)
  | .tup ds => some (.int ds.length)
  | .scr ns => some (.int ns.length)
  | .str z => if z.length ≤ sizeLine then some (.int z.length) else none
  | .dic _ kvs => some (.int kvs.length)
  | _ => none
def rLenD : List V → Hp → VK → Prop := fun xs H Q => (∃ a kvs, xs = [V.ref a] ∧ Rd H a (.dK kvs) ∧ Q (.int kvs.length) H) ∨ ∃ a kvs, xs = [V.ref a] ∧ Rd H a (.dT kvs) ∧ Q (.int kvs.length) H
theorem call_lenDic {X : Cx} : CallR X (.builtin "len") rLenD := by
  intro pins s σ H xs us Q I r h
  rcases h with ⟨a, kvs, rfl, ha, q⟩ | ⟨a, kvs, rfl, ha, q⟩
  · obtain ⟨u, rfl, ru⟩ := vals1 r
    obtain rfl : u = Value.ref a := ru
    exact d_len I ha fun t s' I' => ⟨.int kvs.length, H, I', ⟨t, rfl⟩, q⟩
  · obtain ⟨u, rfl, ru⟩ := vals1 r
    obtain rfl : u = Value.ref a := ru
    obtain ⟨z, hd, ys, rel, dd⟩ := dt_rd I.hok ha
    have hl : kvs.length = ys.length := Paired.length rel
    refine call_len_dictH hd dd (by rw [← hl]; rw [sizeLine_eq] at z; omega) ?_
    rw [← hl]
    exact ⟨.int ((kvs.length : Nat) : Int), H, I.tok _, ⟨_, rfl⟩, q⟩
def rLenM (K : PySem.W.Frag) : List V → Hp → VK → Prop := fun xs H Q => (∃ x n, xs = [x] ∧ LenV K x H n ∧ Q (.int n) H) ∨ rLenD xs H Q
theorem call_lenM {X : Cx} : CallR X (.builtin "len") (rLenM X.K) := CallR.or call_len call_lenDic
theorem g_len {T : Cfg} : Bi T (rLenM T.K) (one lenO) := by
  apply bi_one
  intro Z S σ H B x d v Q rl q e k
  cases q <;> first | (cases e; done) | skip
  · rename_i z
    have e' : (if z.length ≤ sizeLine then some (D.int z.length) else none) = some d := e
    by_cases c : z.length ≤ sizeLine
    · rw [if_pos c] at e'; cases e'
      exact .inl ⟨_, z.length, rfl, ⟨c, rfl⟩, k _ H B rl .rfl' (.int _)⟩
    · rw [if_neg c] at e'; cases e'
  · rename_i ds a xs ha ra
    cases (show some (D.int ds.length) = some d from e)
    exact .inl ⟨_, ds.length, rfl, .inl ⟨xs, .inl (.inl (rl.lst ha)), ra.length⟩, k _ H B rl .rfl' (.int _)⟩
  · rename_i ns a ha
    cases (show some (D.int ns.length) = some d from e)
    exact .inl ⟨_, ns.length, rfl, .inl ⟨_, rl.sqL ha, by rw [List.length_map]⟩, k _ H B rl .rfl' (.int _)⟩
  · rename_i ds a xs ha ra
    cases (show some (D.int ds.length) = some d from e)
    exact .inl ⟨_, ds.length, rfl, .inr ⟨xs, rl.sqT ha, ra.length⟩, k _ H B rl .rfl' (.int _)⟩
  · rename_i kvs a ks ha ra
    cases (show some (D.int kvs.length) = some d from e)
    exact .inr (.inl ⟨_, ks, rfl, rl.rd ha, by rw [← ra.length]; exact k _ H B rl .rfl' (.int _)⟩)
  · rename_i kvs a ks ha ra
    cases (show some (D.int kvs.length) = some d from e)
    exact .inr (.inr ⟨_, ks, rfl, rl.rd ha, by rw [← ra.length]; exact k _ H B rl .rfl' (.int _)⟩)
def absO : D → Option D
  | .int i => some (.int (if i < 0 then -i else i))
  | _ => none
theorem g_abs {T : Cfg} : Bi T (fun xs H Q => ∃ i, xs = [.int i] ∧ Q (.int (if i < 0 then -i else i)) H) (one absO) := by
  apply bi_one
  intro Z S σ H B x d v Q rl q e k
  cases q <;> first | (cases e; done) | skip
  rename_i i
  cases (show some (D.int (if i < 0 then -i else i)) = some d from e)
  exact ⟨i, rfl, k _ H B rl .rfl' (.int _)⟩
def toIntO : D → Option D
  | .int i => some (.int i)
  | .bl b => some (.int (if b then 1 else 0))
  | _ => none
theorem g_int {T : Cfg} : Bi T (fun xs H Q => (∃ i, xs = [.int i] ∧ Q (.int i) H) ∨ ∃ k, xs = [.bl k] ∧ Q (.int (if k then 1 else 0)) H) (one toIntO) := by
  apply bi_one
  intro Z S σ H B x d v Q rl q e k
  cases q <;> first | (cases e; done) | skip
  · rename_i b
    cases (show some (D.int (if b then 1 else 0)) = some d from e)
    exact .inr ⟨b, rfl, k _ H B rl .rfl' (.int _)⟩
  · rename_i i
    cases (show some (D.int i) = some d from e)
    exact .inl ⟨i, rfl, k _ H B rl .rfl' (.int _)⟩
def maxL : List Int → Int
  | [] => 0
  | n :: ns => ns.foldl max n
def minL : List Int → Int
  | [] => 0
  | n :: ns => ns.foldl min n
theorem foldl_max : ∀ (ns : List Int) (n : Int), n ≤ ns.foldl max n ∧ (∀ y ∈ ns, y ≤ ns.foldl max n) ∧ (ns.foldl max n = n ∨ ns.foldl max n ∈ ns)
  | [], n => ⟨Int.le_refl _, fun _ h => (nomatch h), .inl rfl⟩
  | m :: ns, n => by
    obtain ⟨h1, h2, h3⟩ := foldl_max ns (max n m)
    rw [List.foldl_cons]
    refine ⟨by omega, fun y hy => ?_, ?_⟩
    · rcases List.mem_cons.mp hy with rfl | hy
      · omega
      · exact h2 y hy
    · rcases h3 with h3 | h3
      · rw [h3]
        by_cases c : n ≤ m
        · exact .inr (by rw [show max n m = m by omega]; exact List.mem_cons_self)
        · exact .inl (by omega)
      · exact .inr (List.mem_cons_of_mem _ h3)
theorem foldl_min : ∀ (ns : List Int) (n : Int), ns.foldl min n ≤ n ∧ (∀ y ∈ ns, ns.foldl min n ≤ y) ∧ (ns.foldl min n = n ∨ ns.foldl min n ∈ ns)
  | [], n => ⟨Int.le_refl _, fun _ h => (nomatch h), .inl rfl⟩
  | m :: ns, n => by
    obtain ⟨h1, h2, h3⟩ := foldl_min ns (min n m)
    rw [List.foldl_cons]
    refine ⟨by omega, fun y hy => ?_, ?_⟩
    · rcases List.mem_cons.mp hy with rfl | hy
      · omega
      · exact h2 y hy
    · rcases h3 with h3 | h3
      · rw [h3]
        by_cases c : n ≤ m
        · exact .inl (by omega)
        · exact .inr (by rw [show min n m = m by omega]; exact List.mem_cons_self)
      · exact .inr (List.mem_cons_of_mem _ h3)
theorem maxL_spec {ns : List Int} (h : ns ≠ []) : maxL ns ∈ ns ∧ ∀ y ∈ ns, y ≤ maxL ns := by
  cases ns with
  | nil => exact absurd rfl h
  | cons n ns =>
    obtain ⟨h1, h2, h3⟩ := foldl_max ns n
    refine ⟨?_, fun y hy => ?_⟩
    · rcases h3 with h3 | h3
      · exact List.mem_cons.mpr (.inl h3)
      · exact List.mem_cons_of_mem _ h3
    · rcases List.mem_cons.mp hy with rfl | hy
      · exact h1
      · exact h2 y hy
theorem minL_spec {ns : List Int} (h : ns ≠ []) : minL ns ∈ ns ∧ ∀ y ∈ ns, minL ns ≤ y := by
  cases ns with
  | nil => exact absurd rfl h
  | cons n ns =>
    obtain ⟨h1, h2, h3⟩ := foldl_min ns n
    refine ⟨?_, fun y hy => ?_⟩
    · rcases h3 with h3 | h3
      · exact List.mem_cons.mpr (.inl h3)
      · exact List.mem_cons_of_mem _ h3
    · rcases List.mem_cons.mp hy with rfl | hy
      · exact h1
      · exact h2 y hy
theorem maxL_one {ns : List Int} {m : Int} (h1 : m ∈ ns) (h2 : ∀ y ∈ ns, y ≤ m) : m = maxL ns := by
  have h := maxL_spec (ns := ns) (fun e => by rw [e] at h1; cases h1)
  have a := h2 _ h.1
  have b := h.2 _ h1
  omega
theorem minL_one {ns : List Int} {m : Int} (h1 : m ∈ ns) (h2 : ∀ y ∈ ns, m ≤ y) : m = minL ns := by
  have h := minL_spec (ns := ns) (fun e => by rw [e] at h1; cases h1)
  have a := h2 _ h.1
  have b := h.2 _ h1
  omega
/-- ints of a list or a list's reading -/
def maxO : D → Option D
  | .lst ds => match intsOf ds with
    | some (n :: ns) => some (.int (maxL (n :: ns)))
    | _ => none
  | _ => none
def max2 : D → D → Option D
  | .int i, .int j => some (.int (if j > i then j else i))
  | _, _ => none
def minO : D → Option D
  | .lst ds => match intsOf ds with
    | some (n :: ns) => some (.int (minL (n :: ns)))
    | _ => none
  | _ => none
def min2 : D → D → Option D
  | .int i, .int j => some (.int (if j < i then j else i))
  | _, _ => none
def rMaxM (K : PySem.W.Frag) : List V → Hp → VK → Prop := fun xs H Q => rMax K xs H Q ∨ ∃ i j, xs = [.int i, .int j] ∧ Q (.int (if j > i then j else i)) H
def rMinM (K : PySem.W.Frag) : List V → Hp → VK → Prop := fun xs H Q => rMin K xs H Q ∨ ∃ i j, xs = [.int i, .int j] ∧ Q (.int (if j < i then j else i)) H
theorem call_maxM {X : Cx} (hc : X.calm = true) : CallR X (.builtin "max") (rMaxM X.K) := CallR.or (cr_max hc) (call_max2 hc)
theorem call_minM {X : Cx} (hc : X.calm = true) : CallR X (.builtin "min") (rMinM X.K) := CallR.or (cr_min hc) (call_min2 hc)
theorem g_max {T : Cfg} : Bi T (rMaxM T.K) (oneTwo maxO max2) := by
  apply bi_oneTwo
  · intro Z S σ H B x d v Q rl q e k
    cases q <;> first | (cases e; done) | skip
    rename_i ds a xs ha ra
    have e0 : (match intsOf ds with | some (n :: ns) => some (D.int (maxL (n :: ns))) | _ => none) = some d := e
    cases ei : intsOf ds with
    | none => rw [ei] at e0; cases e0
    | some ns =>
      cases ns with
      | nil => rw [ei] at e0; cases e0
      | cons n ns =>
        rw [ei] at e0
        have e' : some (D.int (maxL (n :: ns))) = some d := e0
        cases e'
        have ed := intsOf_eq ei
        subst ed
        have ex := ra.intsV
        subst ex
        exact .inl ⟨a, n :: ns, rfl, .inl (.inl (rl.lst ha)), Nat.succ_pos _, fun m h1 h2 => by rw [maxL_one h1 h2]; exact k _ H B rl .rfl' (.int _)⟩
  · intro Z S σ H B x y d v w Q rl q1 q2 e k
    cases q1 <;> cases q2 <;> first | (cases e; done) | skip
    rename_i i j
    cases (show some (D.int (if j > i then j else i)) = some d from e)
    exact .inr ⟨i, j, rfl, k _ H B rl .rfl' (.int _)⟩
theorem g_min {T : Cfg} : Bi T (rMinM T.K) (oneTwo minO min2) := by
  apply bi_oneTwo
  · intro Z S σ H B x d v Q rl q e k
    cases q <;> first | (cases e; done) | skip
    rename_i ds a xs ha ra
    have e0 : (match intsOf ds with | some (n :: ns) => some (D.int (minL (n :: ns))) | _ => none) = some d := e
    cases ei : intsOf ds with
    | none => rw [ei] at e0; cases e0
    | some ns =>
      cases ns with
      | nil => rw [ei] at e0; cases e0
      | cons n ns =>
        rw [ei] at e0
        have e' : some (D.int (minL (n :: ns))) = some d := e0
        cases e'
        have ed := intsOf_eq ei
        subst ed
        have ex := ra.intsV
        subst ex
        exact .inl ⟨a, n :: ns, rfl, .inl (.inl (rl.lst ha)), Nat.succ_pos _, fun m h1 h2 => by rw [minL_one h1 h2]; exact k _ H B rl .rfl' (.int _)⟩
  · intro Z S σ H B x y d v w Q rl q1 q2 e k
    cases q1 <;> cases q2 <;> first | (cases e; done) | skip
    rename_i i j
    cases (show some (D.int (if j < i then j else i)) = some d from e)
    exact .inr ⟨i, j, rfl, k _ H B rl .rfl' (.int _)⟩
def sumO : D → Option D
  | .lst ds => (intsOf ds).map fun ns => .int ns.sum
  | _ => none
theorem g_sum {T : Cfg} : Bi T (rSum T.K) (one sumO) := by
  apply bi_one
  intro Z S σ H B x d v Q rl q e k
  cases q <;> first | (cases e; done) | skip
  rename_i ds a xs ha ra
  obtain ⟨ns, ei, e'⟩ := Option.map_eq_some_iff.mp (show (intsOf ds).map (fun ns => D.int ns.sum) = some d from e)
  cases e'
  have ed := intsOf_eq ei
  subst ed
  have ex := ra.intsV
  subst ex
  exact ⟨a, ns, rfl, .inl (.inl (rl.lst ha)), k _ H B rl .rfl' (.int _)⟩
def anyO : D → Option D
  | .lst ds => (blsOf ds).map fun bs => .bl (bs.any id)
  | _ => none
def allO : D → Option D
  | .lst ds => (blsOf ds).map fun bs => .bl (bs.all id)
  | _ => none
theorem g_any {T : Cfg} : Bi T (rAny T.K) (one anyO) := by
  apply bi_one
  intro Z S σ H B x d v Q rl q e k
  cases q <;> first | (cases e; done) | skip
  rename_i ds a xs ha ra
  obtain ⟨ns, ei, e'⟩ := Option.map_eq_some_iff.mp (show (blsOf ds).map (fun bs => D.bl (bs.any id)) = some d from e)
  cases e'
  have ed := blsOf_eq ei
  subst ed
  have ex := ra.blsV
  subst ex
  exact ⟨a, ns, rfl, .inl (.inl (rl.lst ha)), k _ H B rl .rfl' (.bl _)⟩
theorem g_all {T : Cfg} : Bi T (rAll T.K) (one allO) := by
  apply bi_one
  intro Z S σ H B x d v Q rl q e k
  cases q <;> first | (cases e; done) | skip
  rename_i ds a xs ha ra
  obtain ⟨ns, ei, e'⟩ := Option.map_eq_some_iff.mp (show (blsOf ds).map (fun bs => D.bl (bs.all id)) = some d from e)
  cases e'
  have ed := blsOf_eq ei
  subst ed
  have ex := ra.blsV
  subst ex
  exact ⟨a, ns, rfl, .inl (.inl (rl.lst ha)), k _ H B rl .rfl' (.bl _)⟩
def tupleO : D → Option D
  | .lst ds => some (.tup ds)
  | .tup ds => some (.tup ds)
  | _ => none
theorem g_tuple {T : Cfg} : Bi T (fun xs H Q => ∃ p ys, xs = [.ref p] ∧ ((SqL T.K H p ys ∧ ∀ l, H l = none → Q (.ref l) (upd H l (.tup ys))) ∨ (SqT T.K H p ys ∧ Q (.ref p) H))) (one tupleO) := by
  apply bi_one
  intro Z S σ H B x d v Q rl q e k
  cases q <;> first | (cases e; done) | skip
  · rename_i ds a xs ha ra
    cases (show some (D.tup ds) = some d from e)
    refine ⟨a, xs, rfl, .inl ⟨.inl (.inl (rl.lst ha)), fun p hp => ?_⟩⟩
    have le := Bd.le_add (o := .tup xs) (rl.gnone hp)
    exact k _ _ _ (rl.alloc hp _) le (.tup upd_same (ra.le le))
  · rename_i ds a xs ha ra
    cases (show some (D.tup ds) = some d from e)
    exact ⟨a, xs, rfl, .inr ⟨rl.sqT ha, k _ H B rl .rfl' (.tup ha ra)⟩⟩
/-- list(x): of a list, a tuple, a dict's keys -/
def listO : D → Option D
  | .lst ds => some (.lst ds)
  | .tup ds => some (.lst ds)
  | .dic _ kvs => some (.lst (kvs.map (·.1)))
  | _ => none
def rListDK : List V → Hp → VK → Prop := fun xs H Q => ∃ p kvs, xs = [.ref p] ∧ Rd H p (.dK kvs) ∧ ∀ q, H q = none → Q (.ref q) (upd H q (.lst (kvs.map fun kv => kV kv.1)))
theorem call_list_rdK {X : Cx} (hc : X.calm = true) : CallR X (.type "list") rListDK := by
  intro pins s σ H xs us Q I r h
  obtain ⟨p, kvs, e, hk, q⟩ := h
  subst e
  obtain ⟨u, eu, rx⟩ := vals1 r
  subst eu
  obtain rfl : u = Value.ref p := rx
  obtain ⟨z, lo, vs, rk, hd⟩ := dk_rd I.hok hk
  obtain ⟨ep, hat⟩ := hd.dictAt
  have hl : kvs.length = vs.length := Paired.length rk
  refine PySem.W.kdl_call (PySem.W.kdl_dict (knd := mixKind X.prog X.w) (kvs := vs) (ep := ep) lo) (I.ok.hd hc) hat (by rw [← hl]; exact z) fun h' tk acc' c' hkeep hS hacc => ?_
  refine ⟨.ref s.heap.objs.size, upd H s.heap.objs.size (.lst (kvs.map fun kv => kV kv.1)), I.laid hkeep (Nat.le_refl _) (show ObjOk X.prog X.w _ _ _ (.lst (kvs.map fun kv => kV kv.1)) from ⟨?_, acc'.toList, c', ?_, ?_⟩), rfl, q _ (I.hok.fresh (Nat.le_refl _))⟩
  · rw [List.length_map]; exact z
  · have el : acc'.toList.length = acc'.size := by simp
    refine vals_of_at (by rw [List.length_map, el, hacc.1, hl]) fun j x w h1 h2 => ?_
    obtain ⟨k, y, hky, hi⟩ := hacc.2 j w (by rw [← Array.getElem?_toList]; exact h2)
    have e1 : (kvs.map (·.1))[j]? = some k := by
      rw [KV.keys rk, List.getElem?_map, hky] <;> rfl
    have e2 : (kvs.map fun kv => kV kv.1)[j]? = some (kV k) := by
      have e3 : (kvs.map fun kv => kV kv.1) = (kvs.map (·.1)).map kV := by rw [List.map_map] <;> rfl
      rw [e3, List.getElem?_map, e1] <;> rfl
    rw [e2] at h1
    cases h1
    exact keyIs_rel hi
  · rw [Array.toArray_toList]; exact hS
def rListM (K : PySem.W.Frag) : List V → Hp → VK → Prop := fun xs H Q => (∃ p ys, xs = [.ref p] ∧ (SqL K H p ys ∨ SqT K H p ys) ∧ ∀ l, H l = none → Q (.ref l) (upd H l (.lst ys))) ∨
  (rListDK xs H Q ∨ (∃ d kvs, xs = [V.ref d] ∧ Rd H d (.dT kvs) ∧ ∀ p bs, H p = none → IsKeys H kvs bs → Q (.ref p) (upd H p (.lst (bs.map V.ref)))))
theorem call_listM {X : Cx} (hc : X.calm = true) : CallR X (.type "list") (rListM X.K) := CallR.or call_list_of (CallR.or (call_list_rdK hc) (call_list_dT hc))
theorem RepK.keysR {T : Cfg} {B : Bd} : ∀ {kvs : List (D × D)} {ks : List (Key × V)}, RepK T B kvs ks → RepL T B (kvs.map (·.1)) (ks.map fun kv => kV kv.1)
  | _, _, .nil => .nil
  | _, _, .cons (k := k) a b => .cons (key_rep k) (RepK.keysR b)
/-- the key tuples of a dict are seen -/
theorem seeKeys {T : Zu} {S : MS} {σ : L2.St} {H : Hp} : ∀ {kvs : List (D × D)} {ks : List (List Key × V)} {bs : List Addr} {B : Bd}, Rl T S σ H B → RepT T.toCfg B kvs ks → IsKeys H ks bs → ∃ B', Rl T S σ H B' ∧ B.le B' ∧ RepL T.toCfg B' (kvs.map (·.1)) (bs.map V.ref)
  | _, _, _, B, rl, .nil, h => by
    have h' : Paired (fun (p : List Key × V) b => H b = some (.tup (p.1.map kV))) [] _ := h
    cases h'
    exact ⟨B, rl, .rfl', .nil⟩
  | _, _, _, B, rl, .cons (k := k) a b, h => by
    have h' : Paired (fun (p : List Key × V) b => H b = some (.tup (p.1.map kV))) (_ :: _) _ := h
    cases h' with
    | cons h1 h2 =>
      rename_i x bs
      obtain ⟨B1, r1, l1, g1⟩ := rl.seeTup h1
      obtain ⟨B2, r2, l2, q2⟩ := seeKeys r1 (b.le l1) h2
      exact ⟨B2, r2, l1.trans l2, .cons (.tup (l2.g _ _ g1) (keys_rep k)) q2⟩
theorem g_list {T : Cfg} : Bi T (rListM T.K) (one listO) := by
  apply bi_one
  intro Z S σ H B x d v Q rl q e k
  cases q <;> first | (cases e; done) | skip
  · rename_i ds a xs ha ra
    cases (show some (D.lst ds) = some d from e)
    refine .inl ⟨a, xs, rfl, .inl (.inl (.inl (rl.lst ha))), fun p hp => ?_⟩
    have le := Bd.le_add (o := .lst xs) (rl.gnone hp)
    exact k _ _ _ (rl.alloc hp _) le (.lst upd_same (ra.le le))
  · rename_i ds a xs ha ra
    cases (show some (D.lst ds) = some d from e)
    refine .inl ⟨a, xs, rfl, .inr (rl.sqT ha), fun p hp => ?_⟩
    have le := Bd.le_add (o := .lst xs) (rl.gnone hp)
    exact k _ _ _ (rl.alloc hp _) le (.lst upd_same (ra.le le))
  · rename_i kvs a ks ha ra
    cases (show some (D.lst (kvs.map (·.1))) = some d from e)
    refine .inr (.inl ⟨a, ks, rfl, rl.rd ha, fun p hp => ?_⟩)
    have le := Bd.le_add (o := .lst (ks.map fun kv => kV kv.1)) (rl.gnone hp)
    exact k _ _ _ (rl.alloc hp _) le (.lst upd_same (RepK.keysR (ra.le le)))
  · rename_i kvs a ks ha ra
    cases (show some (D.lst (kvs.map (·.1))) = some d from e)
    refine .inr (.inr ⟨a, ks, rfl, rl.rd ha, fun p bs hp hb => ?_⟩)
    obtain ⟨B1, r1, l1, q1⟩ := seeKeys (T := ⟨T, Z⟩) rl ra hb
    have le := Bd.le_add (o := .lst (bs.map V.ref)) (r1.gnone hp)
    exact k _ _ _ (r1.alloc hp _) (l1.trans le) (.lst upd_same (q1.le le))
def strO : D → Option D
  | .int i => if i.natAbs.log2 < 1920 then some (.str (toString i)) else none
  | _ => none
theorem g_str {T : Cfg} : Bi T (fun xs H Q => ∃ i, xs = [.int i] ∧ i.natAbs.log2 < 1920 ∧ Q (.str (toString i)) H) (one strO) := by
  apply bi_one
  intro Z S σ H B x d v Q rl q e k
  cases q <;> first | (cases e; done) | skip
  rename_i i
  have e' : (if i.natAbs.log2 < 1920 then some (D.str (toString i)) else none) = some d := e
  by_cases c : i.natAbs.log2 < 1920
  · rw [if_pos c] at e'; cases e'
    exact ⟨i, rfl, c, k _ H B rl .rfl' (.str _)⟩
  · rw [if_neg c] at e'; cases e'
/-! ### isinstance of data -/
def tyn : D → Option String
  | .non => some "NoneType"
  | .bl _ => some "bool"
  | .int _ => some "int"
  | .str _ => some "str"
  | .lst _ => some "list"
  | .tup _ => some "tuple"
  | .dic _ _ => some "dict"
  | .scr _ => some "list"
  | _ => none
def isiB (t n : String) : Bool := t == n || (t == "bool" && n == "int")
def isiKn (n : String) : Bool := n == "int" || n == "bool" || n == "str" || n == "list" || n == "tuple" || n == "dict"
/-- isinstance(x, n), isinstance(x, (n, m)) -/
def isiG (n : String) : D → Option D := fun d => if isiKn n then (tyn d).map fun t => .bl (isiB t n) else none
def isiG2 (n m : String) : D → Option D := fun d => if isiKn n && isiKn m then (tyn d).map fun t => .bl (isiB t n || isiB t m) else none
theorem kit_known {K : PySem.W.Frag} {d : D} {t n : String} (hd : tyn d = some t) (hn : isiKn n = true) : PySem.W.kitOne K (.type t) (.type n) = some (isiB t n) := by
  have ht : t ∈ ["NoneType", "bool", "int", "str", "list", "tuple", "dict"] := by
    cases d <;> first | (cases hd; done) | (cases hd; decide)
  have hn' : n ∈ ["int", "bool", "str", "list", "tuple", "dict"] := by
    unfold isiKn at hn
    simp only [Bool.or_eq_true, beq_iff_eq] at hn
    rcases hn with ((((rfl | rfl) | rfl) | rfl) | rfl) | rfl <;> decide
  have all : ∀ t ∈ ["NoneType", "bool", "int", "str", "list", "tuple", "dict"], ∀ n ∈ ["int", "bool", "str", "list", "tuple", "dict"], kitB t n = some (isiB t n) := by decide +kernel
  exact kit_ty (all t ht n hn')
theorem tyx_of {T : Zu} {S : MS} {σ : L2.St} {H : Hp} {B : Bd} {d : D} {v : V} {t : String} (rl : Rl T S σ H B) (q : Rep T.toCfg B d v) (h : tyn d = some t) (K : PySem.W.Frag) : TyX K H v (.type t) ∨ (∃ (a : Addr) (ns : List Int), v = .ref a ∧ t = "list" ∧ SqL T.K H a (ns.map V.int)) ∨ (∃ a, v = .ref a ∧ t = "dict" ∧ ∃ kvs, Rd H a (.dT kvs)) := by
  cases q <;> first | (cases h; done) | skip
  · cases h; exact .inl (.base .non)
  · cases h; exact .inl (.base (.bl _))
  · cases h; exact .inl (.base (.int _))
  · cases h; exact .inl (.base (.str _))
  · rename_i ds a xs ha ra; cases h; exact .inl (.base (.lst (rl.lst ha)))
  · rename_i ns a ha; cases h; exact .inr (.inl ⟨a, ns, rfl, rfl, rl.sqL ha⟩)
  · rename_i ds a xs ha ra; cases h; exact .inl (.base (.tup (rl.tup ha)))
  · rename_i kvs a ks ha ra
    cases h
    rcases rl.rd ha with h | ⟨o, h⟩
    · exact .inl (.base (.dK h))
    · exact .inl (.fDict h)
  · rename_i kvs a ks ha ra
    cases h
    exact .inr (.inr ⟨a, rfl, rfl, ks, rl.rd ha⟩)
/-- the types that isinstance is asked of here, over the abstract heap -/
inductive TyY (K : PySem.W.Frag) (H : Hp) : V → Value → Prop
  | x {v : V} {t : Value} : TyX K H v t → TyY K H v t
  | l {a : Addr} {xs : List V} : SqL K H a xs → TyY K H (.ref a) (.type "list")
  | d {a : Addr} {kvs : List (List Key × V)} : Rd H a (.dT kvs) → TyY K H (.ref a) (.type "dict")
theorem kit_ofY {X : Cx} {pins : List (Addr × Obj)} {σ : L2.St} {H : Hp} {s : Shared} {x : V} {u t : Value} (I : Inv X pins σ H s) (rx : RelV x u) (ty : TyY X.K H x t) : ∃ P : Heap → Prop, PySem.W.KitX X.K u t P ∧ P s.heap ∧ u ≠ .builtin "__main__.__loader__#opaque" := by
  cases ty with
  | x h => exact kit_of I rx h
  | @l a xs h =>
    cases (show u = Value.ref a from rx)
    obtain ⟨its, r, ⟨o, n, e, c, _⟩, _⟩ := I.list h
    exact ⟨_, PySem.W.kitx_list, ⟨o, e, c⟩, fun z => nomatch z⟩
  | @d a kvs h =>
    cases (show u = Value.ref a from rx)
    obtain ⟨_, _, xs, _, o, es, ep, h1, h2, _⟩ := (show ObjOk X.prog X.w H s.heap a (.dT kvs) from h.ok I.hok)
    exact ⟨_, PySem.W.kitx_dict, ⟨o, h1, h2.1⟩, fun z => nomatch z⟩
def rIsiY (K : PySem.W.Frag) : List V → Hp → VK → Prop := fun xs H Q => ∃ (x : V) (n : String) (t : Value) (b : Bool), xs = [x, .ty n] ∧ TyY K H x t ∧ PySem.W.kitOne K t (.type n) = some b ∧ Q (.bl b) H
def rIsiY2 (K : PySem.W.Frag) : List V → Hp → VK → Prop := fun xs H Q => ∃ (x : V) (tp : Addr) (n m : String) (t : Value) (b : Bool), xs = [x, .ref tp] ∧ H tp = some (.tup [.ty n, .ty m]) ∧ TyY K H x t ∧ PySem.W.kitAny K t [.type n, .type m] = some b ∧ Q (.bl b) H
theorem call_isiY {X : Cx} : CallR X (.builtin "isinstance") (rIsiY X.K) := by
  intro pins s σ H xs us Q I r h
  obtain ⟨x, n, t, b, rfl, ty, e, q⟩ := h
  obtain ⟨u1, u2, rfl, r1, r2⟩ := vals2 r
  cases (show u2 = Value.type n from r2)
  obtain ⟨P, Z, p, hx⟩ := kit_ofY I r1 ty
  exact PySem.W.kia_one Z I.kIn p e hx fun tk => ⟨.bl b, H, I.tok tk, rfl, q⟩
theorem call_isiY2 {X : Cx} : CallR X (.builtin "isinstance") (rIsiY2 X.K) := by
  intro pins s σ H xs us Q I r h
  obtain ⟨x, tp, n, m, t, b, rfl, hT, ty, e, q⟩ := h
  obtain ⟨u1, u2, rfl, r1, r2⟩ := vals2 r
  cases (show u2 = Value.ref tp from r2)
  obtain ⟨P, Z, p, hx⟩ := kit_ofY I r1 ty
  obtain ⟨_, its, rv, o, h1, h2, k, h3⟩ := (show ObjOk X.prog X.w H s.heap tp (.tup [.ty n, .ty m]) from I.hok tp _ hT)
  have e3 := ClsV.all (.cons (.ty n) (.cons (.ty m) .nil)) rv
  subst e3
  obtain ⟨oc, od, dt, sl⟩ := o
  simp only at h2 h3
  subst h2 h3
  exact PySem.W.kia_tup Z I.kIn p h1 e hx fun tk => ⟨.bl b, H, I.tok tk, rfl, q⟩
section
variable {X : Cx} {T : Su} {x : Str} {p pos pn pm pt : Pos} {a : Expr} {ea : Exp} {n m : String} {xn xm : Str}
theorem tyY_of {S : MS} {σ : L2.St} {H : Hp} {B : Bd} {d : D} {v : V} {t : String} (rl : Rl T.toZu S σ H B) (q : Rep T.toCfg B d v) (h : tyn d = some t) : TyY T.K H v (.type t) := by
  rcases tyx_of rl q h T.K with h | ⟨a, ns, e1, e2, h2⟩ | ⟨a, e1, e2, kvs, h2⟩
  · exact .x h
  · subst e1 e2; exact .l h2
  · subst e1 e2; exact .d h2
theorem r_isi (hK : T.K = X.K) (hg : Gl X "isinstance") (hm : X.mg "isinstance" = none) (gn : Gl X xn) (mn : X.mg xn = none) (vn : bootBuiltins xn = some (.type n)) (ha : PE X a (TEm T ea)) (hn : xn ≠ "__name__" := by decide) (hdb : (xn == ("__debug__" : Str)) = false := by decide)
    (h1 : starEach [a, .Name xn pn] X.env = (false, eval a X.env) :: starEach [.Name xn pn] X.env := by rfl) (h2 : starEach [.Name xn pn] X.env = (false, eval (.Name xn pn) X.env) :: starEach [] X.env := by rfl) (hpl : (backTo pos (starEach [.Name xn pn] X.env)).any (·.1) = false := by rfl) :
    PE X (.Call (.Name "isinstance" p) [a, .Name xn pn] [] pos) (TEm T (eUn (isiG n) ea)) := by
  refine peI (pe_callB call_isiY hg hm boot_isinstance (pa_cons ha (pa_cons (pe_bltn (v := .ty n) gn mn vn rfl hn hdb) pa_nil h2) h1) (by decide) (by decide) h1 hpl) fun σ H Q h => ?_
  obtain ⟨S, B, rl, h⟩ := h
  refine ⟨S, B, rl, PostR.bind h fun x S1 v H1 B1 r1 l1 q1 h1 => ?_⟩
  obtain ⟨d, e, k⟩ := liftO_post h1
  unfold isiG at e
  split at e
  · rename_i c
    obtain ⟨t, et, e⟩ := Option.map_eq_some_iff.mp e
    subst e
    exact ⟨v, n, .type t, _, rfl, hK ▸ tyY_of r1 q1 et, kit_known et c, k _ H1 B1 r1 .rfl' (.bl _)⟩
  · cases e
theorem r_isi2 {k : Nat} (hK : T.K = X.K) (hg : Gl X "isinstance") (hm : X.mg "isinstance" = none) (gn : Gl X xn) (mn : X.mg xn = none) (vn : bootBuiltins xn = some (.type n)) (gm : Gl X xm) (mm : X.mg xm = none) (vm : bootBuiltins xm = some (.type m)) (ha : PE X a (TEm T ea))
    (hn : xn ≠ "__name__" := by decide) (hdb : (xn == ("__debug__" : Str)) = false := by decide) (hn2 : xm ≠ "__name__" := by decide) (hdb2 : (xm == ("__debug__" : Str)) = false := by decide)
    (h1 : starEach [a, .Tuple [.Name xn pn, .Name xm pm] k pt] X.env = (false, eval a X.env) :: starEach [.Tuple [.Name xn pn, .Name xm pm] k pt] X.env := by rfl)
    (h2 : starEach [.Tuple [.Name xn pn, .Name xm pm] k pt] X.env = (false, eval (.Tuple [.Name xn pn, .Name xm pm] k pt) X.env) :: starEach [] X.env := by rfl)
    (h3 : starEach [.Name xn pn, .Name xm pm] X.env = (false, eval (.Name xn pn) X.env) :: starEach [.Name xm pm] X.env := by rfl) (h4 : starEach [.Name xm pm] X.env = (false, eval (.Name xm pm) X.env) :: starEach [] X.env := by rfl)
    (hpl : (backTo pos (starEach [.Tuple [.Name xn pn, .Name xm pm] k pt] X.env)).any (·.1) = false := by rfl) :
    PE X (.Call (.Name "isinstance" p) [a, .Tuple [.Name xn pn, .Name xm pm] k pt] [] pos) (TEm T (eUn (isiG2 n m) ea)) := by
  refine peI (pe_callB call_isiY2 hg hm boot_isinstance (pa_cons ha (pa_cons (pe_tup (pa_cons (pe_bltn (v := .ty n) gn mn vn rfl hn hdb) (pa_cons (pe_bltn (v := .ty m) gm mm vm rfl hn2 hdb2) pa_nil h4) h3)) pa_nil h2) h1) (by decide) (by decide) h1 hpl) fun σ H Q h => ?_
  obtain ⟨S, B, rl, h⟩ := h
  refine ⟨S, B, rl, PostR.bind h fun x S1 v H1 B1 r1 l1 q1 h1 => ?_⟩
  obtain ⟨d, e, k⟩ := liftO_post h1
  unfold isiG2 at e
  split at e
  · rename_i c
    rw [Bool.and_eq_true] at c
    obtain ⟨t, et, e⟩ := Option.map_eq_some_iff.mp e
    subst e
    refine ⟨by show 2 ≤ sizeLine; decide, fun tp htp => ?_⟩
    have r2 := r1.beside htp (.tup [.ty n, .ty m])
    refine ⟨v, tp, n, m, .type t, _, rfl, upd_same, hK ▸ tyY_of r2 q1 et, ?_, k _ _ B1 r2 .rfl' (.bl _)⟩
    refine kitAny_cons (kit_known et c.1) (fun eb => ?_) fun eb => by rw [eb, Bool.true_or]
    refine kitAny_cons (r := isiB t n || isiB t m) (kit_known et c.2) (fun eb2 => ?_) fun eb2 => by rw [eb2, Bool.or_true]
    rw [eb, eb2]
    rfl
  · cases e
end
end Mir
/-! Mir6: statements, targets, fresh lists and dicts, borrowing. -/
namespace Mir
open PySem PySem.Spec PyProof.Rows L2

def PostS (T : Su) (B : Bd) (E : Ends) : R Fl → Prop
  | .ok .nx S' => ∀ σ' H' B', Rl T.toZu S' σ' H' B' → B.le B' → E.nx σ' H'
  | .ok .bk S' => ∀ σ' H' B', Rl T.toZu S' σ' H' B' → B.le B' → E.bk σ' H'
  | .ok .ct S' => ∀ σ' H' B', Rl T.toZu S' σ' H' B' → B.le B' → E.ct σ' H'
  | .ok (.rt d) S' => ∀ v σ' H' B', Rl T.toZu S' σ' H' B' → B.le B' → Rep T.toCfg B' d v → E.rt v H'
  | .ex c fs S' => ∀ C d σ' H' B', T.cls c = some C → XdOk T.toCfg B' d fs → Rl T.toZu S' σ' H' B' → B.le B' → T.W (.ref C) d σ' H'
  | .st => False
def TSm (T : Su) (m : Stm) : TS := fun D σ H => ∃ S B, Rl T.toZu S σ H B ∧ PostS T B D (m S)
theorem PostS.le {T : Su} {B B1 : Bd} {E : Ends} {r : R Fl} (h : PostS T B E r) (l : B.le B1) : PostS T B1 E r := by
  cases r with
  | ok f S =>
    cases f with
    | nx => exact fun σ' H' B' x l' => h σ' H' B' x (l.trans l')
    | bk => exact fun σ' H' B' x l' => h σ' H' B' x (l.trans l')
    | ct => exact fun σ' H' B' x l' => h σ' H' B' x (l.trans l')
    | rt d => exact fun v σ' H' B' x l' => h v σ' H' B' x (l.trans l')
  | ex c fs S => exact fun C d σ' H' B' e z x l' => h C d σ' H' B' e z x (l.trans l')
  | st => exact h
/-- an expression ahead of what a statement does with it -/
theorem PostS.bind {α β : Type} {T : Su} {σ : L2.St} {B : Bd} {E : Ends} {rel : Bd → α → β → Prop} {P : β → Hp → Prop} {r : R α} {f : α → MS → R Fl} (h : PostS T B E (r.bind f))
    (k : ∀ a S1 b H1 B1, Rl T.toZu S1 σ H1 B1 → B.le B1 → rel B1 a b → PostS T B1 E (f a S1) → P b H1) : PostR T σ B rel P r := by
  cases r with
  | ok a S => exact fun b H' B' x l e => k a S b H' B' x l e (PostS.le (r := f a S) h l)
  | ex c fs S => exact fun C d H' B' e z x l => h C d σ H' B' e z x l
  | st => exact h

/-! ### blocks, small statements -/
def sNil : Stm := fun S => .ok .nx S
def sSeq (a b : Stm) : Stm := fun S => (a S).bind fun f S1 => match f with
  | .nx => b S1
  | f => .ok f S1
def sPass : Stm := fun S => .ok .nx S
def sBrk : Stm := fun S => .ok .bk S
def sCnt : Stm := fun S => .ok .ct S
def sRet (e : Exp) : Stm := fun S => (e S).bind fun d S1 => .ok (.rt d) S1
def sRetN : Stm := fun S => .ok (.rt .non) S
def sExpr (e : Exp) : Stm := fun S => (e S).bind fun _ S1 => .ok .nx S1
def sIf (t : Tst) (a b : Stm) : Stm := fun S => (t S).bind fun x S1 => if x = true then a S1 else b S1
/-- what is never come to -/
def sNo : Stm := fun _ => .st
section
variable {X : Cx} {T : Su} {st : Stmt} {rest : List Stmt} {a b : Stm} {pos : Pos} {e : Expr} {ee : Exp}
theorem z_nil : PSs X [] (TSm T sNil) := pssI pss_nil fun D σ H ⟨S, B, rl, h⟩ => h σ H B rl .rfl'
theorem z_cons (h1 : PS X st (TSm T a)) (h2 : PSs X rest (TSm T b)) : PSs X (st :: rest) (TSm T (sSeq a b)) := pssI (pss_cons h1 h2) fun D σ H ⟨S, B, rl, h⟩ => by
  refine ⟨S, B, rl, ?_⟩
  have h' : PostS T B D ((a S).bind fun f S1 => match f with | .nx => b S1 | f => .ok f S1) := h
  cases e : a S with
  | ok f S1 =>
    rw [e] at h'
    cases f with
    | nx => exact fun σ' H' B' x l => ⟨S1, B', x, PostS.le (r := b S1) h' l⟩
    | bk => exact h'
    | ct => exact h'
    | rt d => exact h'
  | ex c fs S1 => rw [e] at h'; exact h'
  | st => rw [e] at h'; exact h'.elim
theorem z_one (h1 : PS X st (TSm T a)) : PSs X [st] (TSm T a) := pss_one h1
theorem y_pass : PS X (.Pass pos) (TSm T sPass) := psI ps_pass fun D σ H ⟨S, B, rl, h⟩ => h σ H B rl .rfl'
theorem y_brk : PS X (.Break pos) (TSm T sBrk) := psI ps_break fun D σ H ⟨S, B, rl, h⟩ => h σ H B rl .rfl'
theorem y_cnt : PS X (.Continue pos) (TSm T sCnt) := psI ps_continue fun D σ H ⟨S, B, rl, h⟩ => h σ H B rl .rfl'
theorem y_ret (he : PE X e (TEm T ee)) : PS X (.Return (some e) pos) (TSm T (sRet ee)) := psI (ps_ret he) fun D σ H ⟨S, B, rl, h⟩ =>
  ⟨S, B, rl, PostS.bind h fun d S1 v H1 B1 r1 l1 q1 h1 => h1 v σ H1 B1 r1 .rfl' q1⟩
theorem y_retN : PS X (.Return none pos) (TSm T sRetN) := psI ps_retN fun D σ H ⟨S, B, rl, h⟩ => h .non σ H B rl .rfl' .non
theorem y_expr (he : PE X e (TEm T ee)) (hs : swapsWith e none pos.line X.env = pure false := by rfl) : PS X (.Expr e pos) (TSm T (sExpr ee)) := psI (ps_expr he hs) fun D σ H ⟨S, B, rl, h⟩ =>
  ⟨S, B, rl, PostS.bind h fun d S1 v H1 B1 r1 l1 q1 h1 => h1 σ H1 B1 r1 .rfl'⟩
theorem y_if {c : Expr} {x y : List Stmt} {t : Tst} (hc : PT X c (TTm T t)) (ha : PSs X x (TSm T a)) (hb : PSs X y (TSm T b)) : PS X (.If c x y pos) (TSm T (sIf t a b)) := psI (ps_if hc ha hb) fun D σ H ⟨S, B, rl, h⟩ => by
  refine ⟨S, B, rl, PostS.bind h fun k S1 k' H1 B1 r1 l1 q1 h1 => ?_⟩
  cases q1
  cases k with
  | true => exact ⟨S1, B1, r1, h1⟩
  | false => exact ⟨S1, B1, r1, h1⟩
theorem y_no : PS X st (TSm T sNo) := psI ps_never fun _ _ _ ⟨_, _, _, h⟩ => h
theorem z_no : PSs X rest (TSm T sNo) := pssI pss_never fun _ _ _ ⟨_, _, _, h⟩ => h
end

/-! ### targets -/
abbrev Tgt := D → MS → Option MS
def PostG (T : Su) (B : Bd) (Q : L2.St → Hp → Prop) : Option MS → Prop
  | some S' => ∀ σ' H' B', Rl T.toZu S' σ' H' B' → B.le B' → Q σ' H'
  | none => False
theorem PostG.le {T : Su} {B B1 : Bd} {Q : L2.St → Hp → Prop} {o : Option MS} (h : PostG T B Q o) (l : B.le B1) : PostG T B1 Q o := by
  cases o with
  | some S => exact fun σ' H' B' x l' => h σ' H' B' x (l.trans l')
  | none => exact h
def TGm (T : Su) (g : Tgt) : TG := fun v σ H Q => ∃ S B d, Rl T.toZu S σ H B ∧ Rep T.toCfg B d v ∧ PostG T B Q (g d S)
abbrev Tgts := List D → MS → Option MS
def TGsm (T : Su) (g : Tgts) : TGs := fun vs σ H Q => ∃ S B ds, Rl T.toZu S σ H B ∧ RepL T.toCfg B ds vs ∧ PostG T B Q (g ds S)
theorem pgI {X : Cx} {e : Expr} {t t' : TG} (h : PG X e t) (k : ∀ v σ H Q, t' v σ H Q → t v σ H Q) : PG X e t' := ⟨fun pins s σ H v u Q I r q => h.run pins s σ H v u Q I r (k v σ H Q q)⟩
theorem pgsI {X : Cx} {es : List Expr} {t t' : TGs} (h : PGs X es t) (k : ∀ v σ H Q, t' v σ H Q → t v σ H Q) : PGs X es t' := ⟨fun pins s σ H v u Q I r q => h.run pins s σ H v u Q I r (k v σ H Q q)⟩
def gNm (i : Nat) : Tgt := fun d S => if i < S.env.length then some (S.put i (.va d)) else none
def gsNil : Tgts := fun ds S => match ds with
  | [] => some S
  | _ => none
def gsCons (g : Tgt) (gs : Tgts) : Tgts := fun ds S => match ds with
  | d :: ds => (g d S).bind fun S1 => gs ds S1
  | _ => none
def gTp (n : Nat) (gs : Tgts) : Tgt := fun d S => match d with
  | .tup ds => if ds.length = n then gs ds S else none
  | _ => none
section
variable {X : Cx} {T : Su} {pos : Pos} {g : Tgt} {gs : Tgts}
theorem t_name {i : Nat} {x : Str} (hN : X.N.Nodup) (hi : X.N[i]? = some x) (hx : Loc X.env.scope x) (hf : X.fn x = true ∨ X.env.scope.names.lookup x = some .local := by first | exact .inl rfl | exact .inr rfl | assumption) : PG X (.Name x pos) (TGm T (gNm i)) :=
  pgI (pg_name hN hi hx hf) fun v σ H Q ⟨S, B, d, rl, q, h⟩ => by
    unfold gNm at h
    by_cases c : i < S.env.length
    · rw [if_pos c] at h
      exact h _ H B (rl.set c q) .rfl'
    · rw [if_neg c] at h; exact h.elim
theorem ts_nil : PGs X [] (TGsm T gsNil) := pgsI pgs_nil fun vs σ H Q ⟨S, B, ds, rl, q, h⟩ => by
  cases q with
  | nil => exact ⟨rfl, h σ H B rl .rfl'⟩
  | cons _ _ => exact h.elim
theorem ts_cons {e : Expr} {es : List Expr} (h1 : PG X e (TGm T g)) (h2 : PGs X es (TGsm T gs)) (hs : (assignEach (e :: es) X.env).map (·.2) = assign e X.env :: (assignEach es X.env).map (·.2) := by rfl) : PGs X (e :: es) (TGsm T (gsCons g gs)) :=
  pgsI (pgs_cons h1 h2 hs) fun vs σ H Q ⟨S, B, ds, rl, q, h⟩ => by
    cases q with
    | nil => exact h.elim
    | @cons d ds v vs q1 q2 =>
      refine ⟨v, vs, rfl, S, B, d, rl, q1, ?_⟩
      have h' : PostG T B Q ((g d S).bind fun S1 => gs ds S1) := h
      cases e1 : g d S with
      | some S1 =>
        rw [e1] at h'
        exact fun σ1 H1 B1 r1 l1 => ⟨S1, B1, ds, r1, q2.le l1, PostG.le (o := gs ds S1) h' l1⟩
      | none => rw [e1] at h'; exact h'.elim
theorem t_tup {es : List Expr} {k n : Nat} (hK : T.K = X.K) (hc : X.calm = true) (h : PGs X es (TGsm T gs)) (hn : (assignEach es X.env).length = n := by rfl) (hst : (assignEach es X.env).findIdx? (·.1) = none := by rfl) : PG X (.Tuple es k pos) (TGm T (gTp n gs)) :=
  pgI (pg_tup hc h hn hst) fun v σ H Q ⟨S, B, d, rl, q, h⟩ => by
    cases q with
    | @tup ds a xs ha ra =>
      have h' : PostG T B Q (if ds.length = n then gs ds S else none) := h
      by_cases c : ds.length = n
      · rw [if_pos c] at h'
        exact ⟨a, xs, rfl, rl.sqT ha, by rw [← ra.length]; exact c, S, B, ds, rl, ra, h'⟩
      · rw [if_neg c] at h'; exact h'.elim
    | _ => exact h.elim
end

/-! ### x = e -/
def sSet (i : Nat) (e : Exp) : Stm := fun S => (e S).bind fun d S1 => if i < S1.env.length then .ok .nx (S1.put i (.va d)) else .st
def liftG (o : Option MS) : R Fl := match o with
  | some S => .ok .nx S
  | none => .st
def sAsg (g : Tgt) (e : Exp) : Stm := fun S => (e S).bind fun d S1 => liftG (g d S1)
theorem liftG_post {T : Su} {B : Bd} {D : Ends} {o : Option MS} (h : PostS T B D (liftG o)) : PostG T B D.nx o := by
  cases o with
  | some S => exact h
  | none => exact h.elim
section
variable {X : Cx} {T : Su} {pos pos' : Pos} {g : Tgt} {e : Expr} {ee : Exp}
theorem set_of {i : Nat} {D : Ends} {σ : L2.St} {H : Hp} (h : TSm T (sSet i ee) D σ H) : tAsg (TEm T ee) (gName i) D σ H := by
  obtain ⟨S, B, rl, h⟩ := h
  refine ⟨S, B, rl, PostS.bind h fun d S1 v H1 B1 r1 l1 q1 h1 => ?_⟩
  by_cases c : i < S1.env.length
  · rw [if_pos c] at h1
    exact h1 _ H1 B1 (r1.set c q1) .rfl'
  · rw [if_neg c] at h1; exact h1.elim
theorem y_set {i : Nat} {x : Str} (hN : X.N.Nodup) (hi : X.N[i]? = some x) (hx : Loc X.env.scope x) (he : PE X e (TEm T ee)) (hs : swapsWith e (some (.Name x pos')) pos.line X.env = pure false := by rfl)
    (hf : X.fn x = true ∨ X.env.scope.names.lookup x = some .local := by first | exact .inl rfl | exact .inr rfl | assumption) : PS X (.Assign [.Name x pos'] e pos) (TSm T (sSet i ee)) :=
  psI (ps_set hN hi hx he hs hf) fun D σ H h => set_of h
theorem y_asg {tg : Expr} (he : PE X e (TEm T ee)) (hg : PG X tg (TGm T g)) (hs : swapsWithSole [tg] e pos.line X.env = pure false := by rfl) (hw : swappedStores [tg] e X.env = pure none := by rfl)
    (h1 : (assignEach [tg] X.env).map (·.2) = [assign tg X.env] := by rfl) : PS X (.Assign [tg] e pos) (TSm T (sAsg g ee)) := psI (ps_asg he hg hs hw h1) fun D σ H ⟨S, B, rl, h⟩ =>
  ⟨S, B, rl, PostS.bind h fun d S1 v H1 B1 r1 l1 q1 h1 => ⟨S1, B1, d, r1, q1, liftG_post h1⟩⟩
/-- a, b = x, y of plain local names -/
def sPar2 (i j : Nat) (as : Exps) : Stm := fun S => (as S).bind fun ds S1 => match ds with
  | [a, b] => if i < S1.env.length ∧ j < S1.env.length then .ok .nx ((S1.put i (.va a)).put j (.va b)) else .st
  | _ => .st
theorem y_par2 {i j : Nat} {x y : Str} {a b : Expr} {ees : Exps} {px py pt : Pos} {kt k2 pt2} (hc : X.calm = true) (hN : X.N.Nodup) (hi : X.N[i]? = some x) (hj : X.N[j]? = some y) (hij : i ≠ j)
    (hx : X.env.scope.names.lookup x = some .local) (hy : X.env.scope.names.lookup y = some .local) (ha : PA X [a, b] (TAm T ees))
    (hw : swappedStores [.Tuple [.Name x px, .Name y py] kt pt] (.Tuple [a, b] k2 pt2) X.env = pure (some [x, y]))
    (hs : swapsWithSole [.Tuple [.Name x px, .Name y py] kt pt] (.Tuple [a, b] k2 pt2) pos.line X.env = pure false := by rfl) :
    PS X (.Assign [.Tuple [.Name x px, .Name y py] kt pt] (.Tuple [a, b] k2 pt2) pos) (TSm T (sPar2 i j ees)) := psI (ps_par hc hN hi hj hij hx hy ha hw hs) fun D σ H ⟨S, B, rl, h⟩ => by
  refine ⟨S, B, rl, PostS.bind h fun ds S1 vs H1 B1 r1 l1 q1 h1 => ?_⟩
  cases q1 with
  | nil => exact h1.elim
  | cons q1 q2 =>
    cases q2 with
    | nil => exact h1.elim
    | cons q2 q3 =>
      cases q3 with
      | cons _ _ => exact h1.elim
      | nil =>
        rename_i d1 v1 d2 v2
        refine ⟨v1, v2, rfl, ?_⟩
        have h' : PostS T B1 D (if i < S1.env.length ∧ j < S1.env.length then .ok .nx ((S1.put i (.va d1)).put j (.va d2)) else .st) := h1
        by_cases c : i < S1.env.length ∧ j < S1.env.length
        · rw [if_pos c] at h'
          have r2 := r1.set c.1 q1
          exact h' _ H1 B1 (r2.set (by show j < (S1.env.set i _).length; rw [List.length_set]; exact c.2) q2) .rfl'
        · rw [if_neg c] at h'; exact h'.elim
def sPar3 (i j l : Nat) (as : Exps) : Stm := fun S => (as S).bind fun ds S1 => match ds with
  | [a, b, c] => if i < S1.env.length ∧ j < S1.env.length ∧ l < S1.env.length then .ok .nx (((S1.put i (.va a)).put j (.va b)).put l (.va c)) else .st
  | _ => .st
theorem y_par3 {i j l : Nat} {x y z : Str} {a b c : Expr} {ees : Exps} {px py pz pt : Pos} {kt k2 pt2} (hc : X.calm = true) (hN : X.N.Nodup) (hi : X.N[i]? = some x) (hj : X.N[j]? = some y) (hl : X.N[l]? = some z) (hij : i ≠ j) (hil : i ≠ l) (hjl : j ≠ l)
    (hx : X.env.scope.names.lookup x = some .local) (hy : X.env.scope.names.lookup y = some .local) (hz : X.env.scope.names.lookup z = some .local) (ha : PA X [a, b, c] (TAm T ees))
    (hw : swappedStores [.Tuple [.Name x px, .Name y py, .Name z pz] kt pt] (.Tuple [a, b, c] k2 pt2) X.env = pure (some [x, y, z]))
    (hs : swapsWithSole [.Tuple [.Name x px, .Name y py, .Name z pz] kt pt] (.Tuple [a, b, c] k2 pt2) pos.line X.env = pure false := by rfl) :
    PS X (.Assign [.Tuple [.Name x px, .Name y py, .Name z pz] kt pt] (.Tuple [a, b, c] k2 pt2) pos) (TSm T (sPar3 i j l ees)) := psI (ps_par3 hc hN hi hj hl hij hil hjl hx hy hz ha hw hs) fun D σ H ⟨S, B, rl, h⟩ => by
  refine ⟨S, B, rl, PostS.bind h fun ds S1 vs H1 B1 r1 l1 q1 h1 => ?_⟩
  cases q1 with
  | nil => exact h1.elim
  | cons q1 q2 =>
    cases q2 with
    | nil => exact h1.elim
    | cons q2 q3 =>
      cases q3 with
      | nil => exact h1.elim
      | cons q3 q4 =>
        cases q4 with
        | cons _ _ => exact h1.elim
        | nil =>
          rename_i d1 v1 d2 v2 d3 v3
          refine ⟨v1, v2, v3, rfl, ?_⟩
          have h' : PostS T B1 D (if i < S1.env.length ∧ j < S1.env.length ∧ l < S1.env.length then .ok .nx (((S1.put i (.va d1)).put j (.va d2)).put l (.va d3)) else .st) := h1
          by_cases c : i < S1.env.length ∧ j < S1.env.length ∧ l < S1.env.length
          · rw [if_pos c] at h'
            have r2 := r1.set c.1 q1
            have r3 := r2.set (by show j < (S1.env.set i _).length; rw [List.length_set]; exact c.2.1) q2
            exact h' _ H1 B1 (r3.set (by show l < ((S1.env.set i _).set j _).length; rw [List.length_set, List.length_set]; exact c.2.2) q3) .rfl'
          · rw [if_neg c] at h'; exact h'.elim
/-- x op= e of numbers, texts .. -/
def sAug (i : Nat) (g : D → D → Option D) (e : Exp) : Stm := fun S => match S.env[i]? with
  | some (.va x) => (e S).bind fun y S1 => match g x y with
    | some d => if i < S1.env.length then .ok .nx (S1.put i (.va d)) else .st
    | none => .st
  | _ => .st
theorem y_aug {i : Nat} {x : Str} {op : Operator} {r : R2} {gg : D → D → Option D} (hN : X.N.Nodup) (hi : X.N[i]? = some x) (hx : Loc X.env.scope x) (he : PE X e (TEm T ee)) (ho : OpR X (inplaceOp op) r) (hg : Bin T.toCfg r gg)
    (hf : X.fn x = true ∨ X.env.scope.names.lookup x = some .local := by first | exact .inl rfl | exact .inr rfl | assumption) : PS X (.AugAssign (.Name x pos') op e pos) (TSm T (sAug i gg ee)) :=
  psI (ps_aug (ti := r) hN hi hx he (fun pins s σ H x y v u Q I rx ry q => ho pins s σ H x y v u Q I rx ry q) hf) fun D σ H ⟨S, B, rl, h⟩ => by
    unfold sAug at h
    cases es : S.env[i]? with
    | none => rw [es] at h; exact h.elim
    | some sl =>
      rw [es] at h
      have x0 := rl.sl i sl es
      cases sl with
      | va d =>
        obtain ⟨v, ev, q⟩ := x0
        refine ⟨v, ev, S, B, rl, PostS.bind h fun y S1 w H1 B1 r1 l1 q1 h1 => ?_⟩
        cases e2 : gg d y with
        | none => rw [e2] at h1; exact h1.elim
        | some d2 =>
          rw [e2] at h1
          have h' : PostS T B1 D (if i < S1.env.length then .ok .nx (S1.put i (.va d2)) else .st) := h1
          by_cases c : i < S1.env.length
          · rw [if_pos c] at h'
            exact hg (Z := T.Z) r1 (q.le l1) q1 e2 fun u H2 B2 r2 l2 q2 => h' _ H2 B2 (r2.set c q2) l2
          · rw [if_neg c] at h'; exact h'.elim
      | _ => exact h.elim
end

/-! ### a fresh list or dict of its own -/
abbrev Frs := MS → R Sl
def PostF (T : Su) (σ : L2.St) (B : Bd) (Q : VK) : R Sl → Prop
  | .ok s S' => ∀ p o H' B', H' p = none → Rl T.toZu S' σ H' B' → B.le B' → s.live = true → SlOk T.toZu B' (upd H' p o) s (some (some (.ref p))) → Q (.ref p) (upd H' p o)
  | .ex c fs S' => ∀ C d H' B', T.cls c = some C → XdOk T.toCfg B' d fs → Rl T.toZu S' σ H' B' → B.le B' → T.W (.ref C) d σ H'
  | .st => False
def TFm (T : Su) (f : Frs) : TE := fun σ H Q => ∃ S B, Rl T.toZu S σ H B ∧ PostF T σ B Q (f S)
def sOwn (i : Nat) (f : Frs) : Stm := fun S => (f S).bind fun s S1 => if i < S1.env.length then .ok .nx (S1.put i s) else .st
theorem PostF.of {T : Su} {σ : L2.St} {B : Bd} {E : Ends} {Q : VK} {r : R Sl} {f : Sl → MS → R Fl} (h : PostS T B E (r.bind f))
    (k : ∀ s S1 p o H1 B1, H1 p = none → Rl T.toZu S1 σ H1 B1 → B.le B1 → s.live = true → SlOk T.toZu B1 (upd H1 p o) s (some (some (.ref p))) → PostS T B1 E (f s S1) → Q (.ref p) (upd H1 p o)) : PostF T σ B Q r := by
  cases r with
  | ok s S => exact fun p o H' B' hp x l lv e => k s S p o H' B' hp x l lv e (PostS.le (r := f s S) h l)
  | ex c fs S => exact fun C d H' B' e z x l => h C d σ H' B' e z x l
  | st => exact h
section
variable {X : Cx} {T : Su} {pos pos' : Pos} {e : Expr} {f : Frs}
theorem own_of {i : Nat} {D : Ends} {σ : L2.St} {H : Hp} (h : TSm T (sOwn i f) D σ H) : tAsg (TFm T f) (gName i) D σ H := by
  obtain ⟨S, B, rl, h⟩ := h
  refine ⟨S, B, rl, PostF.of h fun s S1 p o H1 B1 hp r1 l1 lv q1 h1 => ?_⟩
  by_cases c : i < S1.env.length
  · rw [if_pos c] at h1
    exact h1 _ _ B1 (r1.setOwn c hp q1) .rfl'
  · rw [if_neg c] at h1; exact h1.elim
theorem y_own {i : Nat} {x : Str} (hN : X.N.Nodup) (hi : X.N[i]? = some x) (hx : Loc X.env.scope x) (he : PE X e (TFm T f)) (hs : swapsWith e (some (.Name x pos')) pos.line X.env = pure false := by rfl)
    (hf : X.fn x = true ∨ X.env.scope.names.lookup x = some .local := by first | exact .inl rfl | exact .inr rfl | assumption) : PS X (.Assign [.Name x pos'] e pos) (TSm T (sOwn i f)) :=
  psI (ps_set hN hi hx he hs hf) fun D σ H h => own_of h
def fLst (as : Exps) : Frs := fun S => (as S).bind fun xs S1 => if xs.length ≤ sizeLine then .ok (.ol xs) S1 else .st
theorem PostR.toF {α β : Type} {T : Su} {σ : L2.St} {B : Bd} {Q : VK} {rel : Bd → α → β → Prop} {P : β → Hp → Prop} {r : R α} {f : α → MS → R Sl} (h : PostF T σ B Q (r.bind f))
    (k : ∀ a S1 b H1 B1, Rl T.toZu S1 σ H1 B1 → B.le B1 → rel B1 a b → PostF T σ B1 Q (f a S1) → P b H1) : PostR T σ B rel P r := by
  cases r with
  | ok a S =>
    refine fun b H' B' x l e => k a S b H' B' x l e ?_
    have h' : PostF T σ B Q (f a S) := h
    cases e2 : f a S with
    | ok s S2 => rw [e2] at h'; exact fun p o H2 B2 hp r2 l2 => h' p o H2 B2 hp r2 (l.trans l2)
    | ex c fs S2 => rw [e2] at h'; exact fun C d H2 B2 e z r2 l2 => h' C d H2 B2 e z r2 (l.trans l2)
    | st => rw [e2] at h'; exact h'.elim
  | ex c fs S => exact h
  | st => exact h
theorem f_lst {es : List Expr} {ees : Exps} (h : PA X es (TAm T ees)) : PE X (.List es pos) (TFm T (fLst ees)) := peI (pe_lst h) fun σ H Q ⟨S, B, rl, h⟩ => by
  refine ⟨S, B, rl, PostR.toF h fun xs S1 vs H1 B1 r1 l1 q1 h1 => ?_⟩
  by_cases c : xs.length ≤ sizeLine
  · rw [if_pos c] at h1
    refine ⟨by rw [← q1.length]; exact c, fun p hp => h1 p _ H1 B1 hp r1 .rfl' rfl ⟨p, vs, rfl, upd_same, q1⟩⟩
  · rw [if_neg c] at h1; exact h1.elim
def fDic (t : Bool) : Frs := fun S => .ok (.od t []) S
theorem f_dicK : PE X (.Dict [] [] pos) (TFm T (fDic false)) := peI pe_dnewK fun σ H Q ⟨S, B, rl, h⟩ p hp => h p _ H B hp rl .rfl' rfl ⟨p, rfl, .inl ⟨rfl, [], upd_same, .nil⟩⟩
theorem f_dicT : PE X (.Dict [] [] pos) (TFm T (fDic true)) := peI pe_dnewT fun σ H Q ⟨S, B, rl, h⟩ p hp => h p _ H B hp rl .rfl' rfl ⟨p, rfl, .inr ⟨rfl, [], upd_same, .nil⟩⟩
/-- a fresh list as a value -/
def eFr (f : Frs) : Exp := fun S => (f S).bind fun s S1 => match s with
  | .ol ds => .ok (.lst ds) S1
  | .od t kvs => .ok (.dic t kvs) S1
  | _ => .st
theorem r_fr (h : PE X e (TFm T f)) : PE X e (TEm T (eFr f)) := peI h fun σ H Q ⟨S, B, rl, h⟩ => by
  refine ⟨S, B, rl, ?_⟩
  have h' : PostR T σ B (RelD T) Q ((f S).bind fun s S1 => match s with | .ol ds => .ok (.lst ds) S1 | .od t kvs => .ok (.dic t kvs) S1 | _ => .st) := h
  cases e1 : f S with
  | st => rw [e1] at h'; exact h'.elim
  | ex c fs S1 => rw [e1] at h'; exact h'
  | ok s S1 =>
    rw [e1] at h'
    intro p o H1 B1 hp r1 l1 lv q1
    cases s with
    | un => cases lv
    | va d => cases lv
    | xc c fs => cases lv
    | oi c fs => exact h'.elim
    | ol ds =>
      obtain ⟨a, xs, ea, k, q⟩ := q1
      cases ea
      have le := Bd.le_add (o := o) (r1.gnone hp)
      rw [upd_same] at k
      cases k
      exact h' _ _ _ (r1.alloc hp _) (l1.trans le) (.lst upd_same (q.le le))
    | od t kvs =>
      obtain ⟨a, ea, q⟩ := q1
      cases ea
      have le := Bd.le_add (o := o) (r1.gnone hp)
      rcases q with ⟨rfl, ks, k, q⟩ | ⟨rfl, ks, k, q⟩
      · rw [upd_same] at k
        cases k
        exact h' _ _ _ (r1.alloc hp _) (l1.trans le) (.dic upd_same (q.le le))
      · rw [upd_same] at k
        cases k
        exact h' _ _ _ (r1.alloc hp _) (l1.trans le) (.dit upd_same (q.le le))
end
end Mir
/-! Mir7: what is walked, for, while, comprehensions. -/
namespace Mir
open PySem PySem.Spec PyProof.Rows L2

/-- J gives the items ds, one after the other -/
structure ItOk (T : Zu) (J : It) (ds : List D) (B : Bd) : Prop where
  go : ∀ (i : Nat) (S : MS) (σ : L2.St) (H : Hp) (B1 : Bd) (d : D), Rl T S σ H B1 → B.lg B1 → ds[i]? = some d → J.go i H ∧ ∀ x H', J.yld i H x H' → ∃ B2, Rl T S σ H' B2 ∧ B1.le B2 ∧ Rep T.toCfg B2 d x
  stop : ∀ (i : Nat) (S : MS) (σ : L2.St) (H : Hp) (B1 : Bd), Rl T S σ H B1 → B.lg B1 → ds.length ≤ i → J.stop i H
def PostI (T : Su) (σ : L2.St) (B : Bd) (R' : It → Hp → Prop) : R (List D) → Prop
  | .ok ds S' => ∀ J H' B', Rl T.toZu S' σ H' B' → B.le B' → ItOk T.toZu J ds B' → R' J H'
  | .ex c fs S' => ∀ C d H' B', T.cls c = some C → XdOk T.toCfg B' d fs → Rl T.toZu S' σ H' B' → B.le B' → T.W (.ref C) d σ H'
  | .st => False
def TIm (T : Su) (its : Exps) : TI := fun σ H R' => ∃ S B, Rl T.toZu S σ H B ∧ PostI T σ B R' (its S)
theorem piI {X : Cx} {tg it : Expr} {t t' : TI} (h : PI X tg it t) (k : ∀ σ H R', t' σ H R' → t σ H R') : PI X tg it t' := ⟨fun pins s σ H R' I q => h.run pins s σ H R' I (k σ H R' q)⟩
theorem PostI.le {T : Su} {σ : L2.St} {B B1 : Bd} {Q : It → Hp → Prop} {r : R (List D)} (h : PostI T σ B Q r) (l : B.le B1) : PostI T σ B1 Q r := by
  cases r with
  | ok ds S => exact fun J H' B' x l' o => h J H' B' x (l.trans l') o
  | ex c fs S => exact fun C d H' B' e z x l' => h C d H' B' e z x (l.trans l')
  | st => exact h
theorem PostI.bind {α β : Type} {T : Su} {σ : L2.St} {B : Bd} {Q : It → Hp → Prop} {rel : Bd → α → β → Prop} {P : β → Hp → Prop} {r : R α} {f : α → MS → R (List D)} (h : PostI T σ B Q (r.bind f))
    (k : ∀ a S1 b H1 B1, Rl T.toZu S1 σ H1 B1 → B.le B1 → rel B1 a b → PostI T σ B1 Q (f a S1) → P b H1) : PostR T σ B rel P r := by
  cases r with
  | ok a S => exact fun b H' B' x l e => k a S b H' B' x l e (PostI.le (r := f a S) h l)
  | ex c fs S => exact h
  | st => exact h

/-! ### a list, a tuple, a text -/
def iSeqD : D → Option (List D)
  | .lst ds => some ds
  | .tup ds => some ds
  | .str z => some (z.cps.toList.map fun c => .str ⟨#[c]⟩)
  | _ => none
def liftL (S : MS) : Option (List D) → R (List D)
  | some d => .ok d S
  | none => .st
def iSeq (e : Exp) : Exps := fun S => (e S).bind fun d S1 => liftL S1 (iSeqD d)
def iSeqT (K : PySem.W.Frag) (tl : TE) : TI := fun σ H R' => tl σ H fun x H1 => (∃ a, x = .ref a ∧ (∃ xs, SqL K H1 a xs) ∧ R' (Itl K a) H1) ∨ (∃ a, x = .ref a ∧ (∃ xs, SqT K H1 a xs) ∧ R' (Itt K a) H1) ∨ ∃ z, x = .str z ∧ R' (Its z) H1
theorem pi_any {X : Cx} {tg l : Expr} {tl : TE} (hl : PE X l tl) : PI X tg l (iSeqT X.K tl) := by
  refine ⟨fun pins s σ H R' I h => ?_⟩
  -- each of the three, from the expression's own end
  have one : ∀ (v : Value) (s1 : Shared) (x : V) (H1 : Hp), Inv X pins σ H1 s1 → RelV x v →
      ((∃ a, x = .ref a ∧ (∃ xs, SqL X.K H1 a xs) ∧ R' (Itl X.K a) H1) ∨ (∃ a, x = .ref a ∧ (∃ xs, SqT X.K H1 a xs) ∧ R' (Itt X.K a) H1) ∨ ∃ z, x = .str z ∧ R' (Its z) H1) →
      wpAny (model X.prog X.w) X.A (pyIter v) (PIE X pins σ tg R') X.xe s1 := by
    intro v s1 x H1 I1 r1 q1
    rcases q1 with ⟨a, e, ⟨xs, hq⟩, q⟩ | ⟨a, e, ⟨xs, hq⟩, q⟩ | ⟨z, e, q⟩
    · subst e
      cases r1
      obtain ⟨its, rv, p, hz⟩ := I1.list hq
      refine wpAny_pyIter_list p.isList ?_
      refine ⟨s1.heap.objs.size, [s1.heap.objs.size], _, _, H1, rfl, I1.kept (t' := s1.toks) fun b o e => Heap.get?_push_of_some _ e, turn_list a _, ⟨_, Heap.get?_push_size _ rfl, rfl, rfl⟩, fun b hb => ?_, q⟩
      have e : b = s1.heap.objs.size := by simpa using hb
      subst e
      exact I1.fpOk (Nat.le_refl _) (I1.hok.fresh (Nat.le_refl _))
    · subst e
      cases r1
      obtain ⟨its, rv, p, hz⟩ := I1.tuple hq
      refine wpAny_pyIter_tuple (show s1.heap.IsTuple a its.toArray from p) ?_
      refine ⟨s1.heap.objs.size, [s1.heap.objs.size], _, _, H1, rfl, I1.kept (t' := s1.toks) fun b o e => Heap.get?_push_of_some _ e, turn_tuple a _, ⟨_, Heap.get?_push_size _ rfl, rfl, rfl⟩, fun b hb => ?_, q⟩
      have e : b = s1.heap.objs.size := by simpa using hb
      subst e
      exact I1.fpOk (Nat.le_refl _) (I1.hok.fresh (Nat.le_refl _))
    · subst e
      obtain ⟨t, rfl⟩ := r1
      cases ha : z.cps.all (· < 128)
      · exact wpAny_pyIter_wide ha (pi_one (tk := s1.toks) I1 _ (turn_str _ z t "str_iterator" (.inr rfl)) ⟨_, Heap.get?_push_size _ rfl, rfl, rfl⟩ q)
      · exact wpAny_pyIter_ascii ha (pi_one (tk := s1.toks) I1 _ (turn_str _ z t "str_ascii_iterator" (.inl rfl)) ⟨_, Heap.get?_push_size _ rfl, rfl, rfl⟩ q)
  exact thn (hl.run pins s σ H _ I h) fun v s1 ⟨x, H1, I1, r1, q1⟩ => one v s1 x H1 I1 r1 q1
theorem itOk_list {T : Zu} {ds : List D} {a : Addr} {xs : List V} {B : Bd} (ha : B.G a = some (.lst xs)) (ra : RepL T.toCfg B ds xs) : ItOk T (Itl T.K a) ds B := by
  refine ⟨fun i S σ H B1 d rl l e => ?_, fun i S σ H B1 rl l h => ⟨xs, SqL.of (rl.lst (l.g _ _ ha)), by rw [← ra.length]; exact h⟩⟩
  obtain ⟨x, ex, rx⟩ := ra.get e
  have hs : SqL T.K H a xs := SqL.of (rl.lst (l.g _ _ ha))
  refine ⟨⟨xs, x, hs, ex⟩, fun y H' hy => ?_⟩
  obtain ⟨e1, e2⟩ := hy
  subst e1
  have e3 := e2 xs hs
  rw [ex] at e3
  cases e3
  exact ⟨B1, rl, .rfl', rx.lg l⟩
theorem itOk_tup {T : Zu} {ds : List D} {a : Addr} {xs : List V} {B : Bd} (ha : B.G a = some (.tup xs)) (ra : RepL T.toCfg B ds xs) : ItOk T (Itt T.K a) ds B := by
  refine ⟨fun i S σ H B1 d rl l e => ?_, fun i S σ H B1 rl l h => ⟨xs, rl.sqT (l.g _ _ ha), by rw [← ra.length]; exact h⟩⟩
  obtain ⟨x, ex, rx⟩ := ra.get e
  have hs : SqT T.K H a xs := rl.sqT (l.g _ _ ha)
  refine ⟨⟨xs, x, hs, ex⟩, fun y H' hy => ?_⟩
  obtain ⟨e1, e2⟩ := hy
  subst e1
  have e3 := e2 xs hs
  rw [ex] at e3
  cases e3
  exact ⟨B1, rl, .rfl', rx.lg l⟩
theorem itOk_str {T : Zu} {z : Str} {B : Bd} : ItOk T (Its z) (z.cps.toList.map fun c => .str ⟨#[c]⟩) B := by
  refine ⟨fun i S σ H B1 d rl l e => ?_, fun i S σ H B1 rl l h => ?_⟩
  · rw [List.getElem?_map] at e
    obtain ⟨c, ec, e⟩ := Option.map_eq_some_iff.mp e
    subst e
    have hi : i < z.cps.size := by
      have := (List.getElem?_eq_some_iff.mp ec).1
      simpa using this
    refine ⟨hi, fun y H' hy => ?_⟩
    obtain ⟨e1, c', e2, e3⟩ := hy
    subst e1 e3
    have e4 : z.cps[i]? = some c := by rw [← Array.getElem?_toList]; exact ec
    rw [e4] at e2
    cases e2
    exact ⟨B1, rl, .rfl', .str _⟩
  · show z.cps.size ≤ i
    simpa using h
theorem i_seq {X : Cx} {T : Su} {tg l : Expr} {el : Exp} (hK : T.K = X.K) (hl : PE X l (TEm T el)) : PI X tg l (TIm T (iSeq el)) := piI (pi_any hl) fun σ H R' ⟨S, B, rl, h⟩ => by
  refine ⟨S, B, rl, PostI.bind h fun d S1 v H1 B1 r1 l1 q1 h1 => ?_⟩
  cases q1 with
  | @lst ds a xs ha ra => exact .inl ⟨a, rfl, ⟨xs, SqL.of (r1.lst ha)⟩, hK ▸ h1 _ H1 B1 r1 .rfl' (itOk_list ha ra)⟩
  | @tup ds a xs ha ra => exact .inr (.inl ⟨a, rfl, ⟨xs, r1.sqT ha⟩, hK ▸ h1 _ H1 B1 r1 .rfl' (itOk_tup ha ra)⟩)
  | str z => exact .inr (.inr ⟨z, rfl, h1 _ H1 B1 r1 .rfl' itOk_str⟩)
  | _ => exact h1.elim

/-! ### range -/
def rngD (lo : Int) (n : Nat) : List D := (List.range n).map fun i => .int (lo + (i : Nat))
def rngC (lo c : Int) (n : Nat) : List D := (List.range n).map fun i => .int (lo + (i : Nat) * c)
def iRange1 (as : Exps) : Exps := fun S => (as S).bind fun ds S1 => match ds with
  | [.int j] => if -(2 ^ 62) ≤ j ∧ j < 2 ^ 62 then .ok (rngD 0 j.toNat) S1 else .st
  | _ => .st
def iRange2 (as : Exps) : Exps := fun S => (as S).bind fun ds S1 => match ds with
  | [.int i, .int j] => if -(2 ^ 62) ≤ i ∧ i < 2 ^ 62 ∧ -(2 ^ 62) ≤ j ∧ j < 2 ^ 62 then .ok (rngD i (j - i).toNat) S1 else .st
  | _ => .st
/-- range(i, j, -1) -/
def iRangeDn (as : Exps) : Exps := fun S => (as S).bind fun ds S1 => match ds with
  | [.int i, .int j, .int c] => if c = -1 ∧ -(2 ^ 62) ≤ i ∧ i < 2 ^ 62 ∧ -(2 ^ 62) ≤ j ∧ j < 2 ^ 62 then .ok (rngC i (-1) (i - j).toNat) S1 else .st
  | _ => .st
theorem itOk_rng {T : Zu} {lo : Int} {n : Nat} {B : Bd} : ItOk T (Itr lo n) (rngD lo n) B := by
  refine ⟨fun i S σ H B1 d rl l e => ?_, fun i S σ H B1 rl l h => ?_⟩
  · unfold rngD at e
    rw [List.getElem?_map] at e
    obtain ⟨c, ec, ed⟩ := Option.map_eq_some_iff.mp e
    have hi : i < n := by
      have := (List.getElem?_eq_some_iff.mp ec).1
      simpa using this
    have e2 : c = i := by rw [List.getElem?_range hi] at ec; exact (Option.some.inj ec).symm
    subst e2
    subst ed
    refine ⟨hi, fun y H' hy => ?_⟩
    obtain ⟨e1, e3⟩ := hy
    subst e1 e3
    exact ⟨B1, rl, .rfl', .int _⟩
  · show n ≤ i
    simpa [rngD] using h
theorem itOk_rngC {T : Zu} {lo c : Int} {n : Nat} {B : Bd} : ItOk T (Itc lo c n) (rngC lo c n) B := by
  refine ⟨fun i S σ H B1 d rl l e => ?_, fun i S σ H B1 rl l h => ?_⟩
  · unfold rngC at e
    rw [List.getElem?_map] at e
    obtain ⟨k, ec, ed⟩ := Option.map_eq_some_iff.mp e
    have hi : i < n := by
      have := (List.getElem?_eq_some_iff.mp ec).1
      simpa using this
    have e2 : k = i := by rw [List.getElem?_range hi] at ec; exact (Option.some.inj ec).symm
    subst e2
    subst ed
    refine ⟨hi, fun y H' hy => ?_⟩
    obtain ⟨e1, e3⟩ := hy
    subst e1 e3
    exact ⟨B1, rl, .rfl', .int _⟩
  · show n ≤ i
    simpa [rngC] using h
section
variable {X : Cx} {T : Su} {tg a b c : Expr} {ees : Exps} {p pos : Pos}
theorem i_range1 (hg : Gl X "range") (hm : X.mg "range" = none) (ha : PA X [a] (TAm T ees)) (hs : starEach [a] X.env = [(false, eval a X.env)] := by rfl) : PI X tg (.Call (.Name "range" p) [a] [] pos) (TIm T (iRange1 ees)) := piI (pi_range1 hg hm ha hs) fun σ H R' ⟨S, B, rl, h⟩ => by
  refine ⟨S, B, rl, PostI.bind h fun ds S1 vs H1 B1 r1 l1 q1 h1 => ?_⟩
  cases q1 with
  | nil => exact h1.elim
  | cons q1 q2 =>
    cases q1 <;> first | exact h1.elim | skip
    rename_i j
    cases q2 with
    | cons _ _ => exact h1.elim
    | nil =>
      have h' : PostI T σ B1 R' (if -(2 ^ 62) ≤ j ∧ j < 2 ^ 62 then .ok (rngD 0 j.toNat) S1 else .st) := h1
      by_cases c : -(2 ^ 62) ≤ j ∧ j < 2 ^ 62
      · rw [if_pos c] at h'
        exact ⟨j, rfl, c.1, c.2, h' _ H1 B1 r1 .rfl' itOk_rng⟩
      · rw [if_neg c] at h'; exact h'.elim
theorem i_range2 (hg : Gl X "range") (hm : X.mg "range" = none) (ha : PA X [a, b] (TAm T ees)) (hs : starEach [a, b] X.env = [(false, eval a X.env), (false, eval b X.env)] := by rfl) (hs2 : starEach [b] X.env = [(false, eval b X.env)] := by rfl) :
    PI X tg (.Call (.Name "range" p) [a, b] [] pos) (TIm T (iRange2 ees)) := piI (pi_range2 hg hm ha hs hs2) fun σ H R' ⟨S, B, rl, h⟩ => by
  refine ⟨S, B, rl, PostI.bind h fun ds S1 vs H1 B1 r1 l1 q1 h1 => ?_⟩
  cases q1 with
  | nil => exact h1.elim
  | cons q1 q2 =>
    cases q1 <;> first | exact h1.elim | skip
    rename_i i
    cases q2 with
    | nil => exact h1.elim
    | cons q2 q3 =>
      cases q2 <;> first | exact h1.elim | skip
      rename_i j
      cases q3 with
      | cons _ _ => exact h1.elim
      | nil =>
        have h' : PostI T σ B1 R' (if -(2 ^ 62) ≤ i ∧ i < 2 ^ 62 ∧ -(2 ^ 62) ≤ j ∧ j < 2 ^ 62 then .ok (rngD i (j - i).toNat) S1 else .st) := h1
        by_cases c : -(2 ^ 62) ≤ i ∧ i < 2 ^ 62 ∧ -(2 ^ 62) ≤ j ∧ j < 2 ^ 62
        · rw [if_pos c] at h'
          exact ⟨i, j, rfl, c, h' _ H1 B1 r1 .rfl' itOk_rng⟩
        · rw [if_neg c] at h'; exact h'.elim
theorem i_rangeDn (hg : Gl X "range") (hm : X.mg "range" = none) (ha : PA X [a, b, c] (TAm T ees)) (hs : starEach [a, b, c] X.env = (false, eval a X.env) :: starEach [b, c] X.env := by rfl) (hpl : (backTo pos (starEach [b, c] X.env)).any (·.1) = false := by rfl) :
    PI X tg (.Call (.Name "range" p) [a, b, c] [] pos) (TIm T (iRangeDn ees)) := piI (pi_range3 hg hm ha hs hpl) fun σ H R' ⟨S, B, rl, h⟩ => by
  refine ⟨S, B, rl, PostI.bind h fun ds S1 vs H1 B1 r1 l1 q1 h1 => ?_⟩
  cases q1 with
  | nil => exact h1.elim
  | cons q1 q2 =>
    cases q1 <;> first | exact h1.elim | skip
    rename_i i
    cases q2 with
    | nil => exact h1.elim
    | cons q2 q3 =>
      cases q2 <;> first | exact h1.elim | skip
      rename_i j
      cases q3 with
      | nil => exact h1.elim
      | cons q3 q4 =>
        cases q3 <;> first | exact h1.elim | skip
        rename_i k
        cases q4 with
        | cons _ _ => exact h1.elim
        | nil =>
          have h' : PostI T σ B1 R' (if k = -1 ∧ -(2 ^ 62) ≤ i ∧ i < 2 ^ 62 ∧ -(2 ^ 62) ≤ j ∧ j < 2 ^ 62 then .ok (rngC i (-1) (i - j).toNat) S1 else .st) := h1
          by_cases c : k = -1 ∧ -(2 ^ 62) ≤ i ∧ i < 2 ^ 62 ∧ -(2 ^ 62) ≤ j ∧ j < 2 ^ 62
          · rw [if_pos c] at h'
            obtain ⟨rfl, c1, c2, c3, c4⟩ := c
            exact ⟨i, j, -1, _, rfl, RgC.neg c1 c2 c3 c4, h' _ H1 B1 r1 .rfl' itOk_rngC⟩
          · rw [if_neg c] at h'; exact h'.elim
end

/-! ### for -/
def forL (g : Tgt) (body : Stm) : List D → MS → R Fl
  | [], S => .ok .nx S
  | d :: ds, S => match g d S with
    | none => .st
    | some S1 => match body S1 with
      | .ok .nx S2 => forL g body ds S2
      | .ok .ct S2 => forL g body ds S2
      | .ok .bk S2 => .ok .nx S2
      | .ok (.rt r) S2 => .ok (.rt r) S2
      | .ex c fs S2 => .ex c fs S2
      | .st => .st
def sFor (its : Exps) (g : Tgt) (body : Stm) : Stm := fun S => (its S).bind fun ds S1 => forL g body ds S1
theorem PostS.toI {T : Su} {σ : L2.St} {B : Bd} {E : Ends} {Q : It → Hp → Prop} {r : R (List D)} {f : List D → MS → R Fl} (h : PostS T B E (r.bind f))
    (k : ∀ ds S1 J H1 B1, Rl T.toZu S1 σ H1 B1 → B.le B1 → ItOk T.toZu J ds B1 → PostS T B1 E (f ds S1) → Q J H1) : PostI T σ B Q r := by
  cases r with
  | ok ds S => exact fun J H' B' x l o => k ds S J H' B' x l o (PostS.le (r := f ds S) h l)
  | ex c fs S => exact fun C d H' B' e z x l => h C d σ H' B' e z x l
  | st => exact h
theorem y_for {X : Cx} {T : Su} {tg iter : Expr} {body : List Stmt} {its : Exps} {g : Tgt} {b : Stm} {pos : Pos} (hp : PassesOwn (model X.prog X.w) X.A X.env X.xe) (hc : X.calm = true) (hi : PI X tg iter (TIm T its)) (hg : PG X tg (TGm T g)) (hb : PSs X body (TSm T b))
    (hs : ∀ x, foldedSetIterable iter X.env x = pure x := by intro _; rfl) : PS X (.For tg iter body [] pos) (TSm T (sFor its g b)) := psI (ps_for hp hc hi hg hb hs) fun D σ H ⟨S, B, rl, h⟩ => by
  refine ⟨S, B, rl, PostS.toI h fun ds S1 J H1 B1 r1 l1 o h1 => ?_⟩
  refine ⟨fun i m σ' H' => m = ds.length - i ∧ i ≤ ds.length ∧ ∃ S' B', Rl T.toZu S' σ' H' B' ∧ B1.le B' ∧ PostS T B' D (forL g b (ds.drop i) S'), ⟨ds.length, rfl, Nat.zero_le _, S1, B1, r1, .rfl', h1⟩, ?_⟩
  rintro i m σ' H' ⟨rfl, hi, S', B', r', l', h'⟩
  by_cases hlt : i < ds.length
  · right
    rw [List.drop_eq_getElem_cons hlt] at h'
    obtain ⟨go, yl⟩ := o.go i S' σ' H' B' ds[i] r' l'.lg (List.getElem?_eq_getElem hlt)
    refine ⟨go, fun σ3 H3 => ∃ S3 B3, Rl T.toZu S3 σ3 H3 B3 ∧ B1.le B3 ∧ PostS T B3 D (forL g b (ds.drop (i + 1)) S3), fun σ3 H3 n => ⟨ds.length - (i + 1), by omega, rfl, hlt, n⟩, fun x H2 hy => ?_⟩
    obtain ⟨B2, r2, l2, q2⟩ := yl x H2 hy
    refine ⟨S', B2, ds[i], r2, q2, ?_⟩
    unfold forL at h'
    cases eg : g ds[i] S' with
    | none => rw [eg] at h'; exact h'.elim
    | some S3 =>
      rw [eg] at h'
      refine fun σ3 H3 B3 r3 l3 => ⟨S3, B3, r3, ?_⟩
      have lB : B'.le B3 := l2.trans l3
      have h3 := PostS.le h' lB
      dsimp only at h3
      cases eb : b S3 with
      | st => rw [eb] at h3; exact h3.elim
      | ex c fs S4 => rw [eb] at h3; exact h3
      | ok f S4 =>
        rw [eb] at h3
        cases f with
        | nx => exact fun σ4 H4 B4 r4 l4 => ⟨S4, B4, r4, (l'.trans lB).trans l4, PostS.le h3 l4⟩
        | ct => exact fun σ4 H4 B4 r4 l4 => ⟨S4, B4, r4, (l'.trans lB).trans l4, PostS.le h3 l4⟩
        | bk => exact h3
        | rt d => exact h3
  · left
    have e : i = ds.length := by omega
    subst e
    rw [List.drop_length] at h'
    exact ⟨o.stop _ S' σ' H' B' r' l'.lg (Nat.le_refl _), h' σ' H' B' r' .rfl'⟩

/-! ### while -/
def whL (t : Tst) (body : Stm) : Nat → MS → R Fl
  | 0, _ => .st
  | n + 1, S => (t S).bind fun c S1 => if c = true then match body S1 with
      | .ok .nx S2 => whL t body n S2
      | .ok .ct S2 => whL t body n S2
      | .ok .bk S2 => .ok .nx S2
      | .ok (.rt r) S2 => .ok (.rt r) S2
      | .ex c fs S2 => .ex c fs S2
      | .st => .st
    else .ok .nx S1
def sWhile (n : Nat) (t : Tst) (body : Stm) : Stm := whL t body n
theorem y_while {X : Cx} {T : Su} {c : Expr} {body : List Stmt} {n : Nat} {t : Tst} {b : Stm} {pos : Pos} (hp : PassesOwn (model X.prog X.w) X.A X.env X.xe) (hc : PT X c (TTm T t)) (hb : PSs X body (TSm T b)) : PS X (.While c body [] pos) (TSm T (sWhile n t b)) :=
  psI (ps_while hp hc hb) fun D σ H ⟨S, B, rl, h⟩ => by
    refine ⟨fun m σ' H' => ∃ S' B', Rl T.toZu S' σ' H' B' ∧ B.le B' ∧ PostS T B' D (whL t b m S'), ⟨n, S, B, rl, .rfl', h⟩, ?_⟩
    rintro m σ' H' ⟨S', B', r', l', h'⟩
    cases m with
    | zero => exact h'.elim
    | succ m =>
      refine ⟨S', B', r', PostS.bind (f := fun c S1 => if c = true then _ else .ok .nx S1) h' fun k S1 k' H1 B1 r1 l1 e1 h1 => ?_⟩
      cases e1
      cases k with
      | false => exact h1 σ' H1 B1 r1 .rfl'
      | true =>
        refine ⟨fun σ3 H3 => ∃ S3 B3, Rl T.toZu S3 σ3 H3 B3 ∧ B.le B3 ∧ PostS T B3 D (whL t b m S3), fun σ3 H3 q => ⟨m, Nat.lt_succ_self m, q⟩, S1, B1, r1, ?_⟩
        have h3 : PostS T B1 D (match b S1 with
          | .ok .nx S2 => whL t b m S2
          | .ok .ct S2 => whL t b m S2
          | .ok .bk S2 => .ok .nx S2
          | .ok (.rt r) S2 => .ok (.rt r) S2
          | .ex c fs S2 => .ex c fs S2
          | .st => .st) := h1
        cases eb : b S1 with
        | st => rw [eb] at h3; exact h3.elim
        | ex c fs S4 => rw [eb] at h3; exact h3
        | ok f S4 =>
          rw [eb] at h3
          cases f with
          | nx => exact fun σ4 H4 B4 r4 l4 => ⟨S4, B4, r4, (l'.trans l1).trans l4, PostS.le h3 l4⟩
          | ct => exact fun σ4 H4 B4 r4 l4 => ⟨S4, B4, r4, (l'.trans l1).trans l4, PostS.le h3 l4⟩
          | bk => exact h3
          | rt d => exact h3
end Mir
/-! Mir8: defs and their calls. -/
namespace Mir
open PySem PySem.Spec PyProof.Rows L2

abbrev Z0 : Addr → Value → Option Addr → Prop := fun _ _ _ => False
abbrev Fn := List D → List Cl → R D
/-- what a call promises of its end -/
def PostC (T : Cfg) (B : Bd) (Q : VK) (E : XK) : R D → Prop
  | .ok d S' => ∀ v H' B', Rl ⟨T, Z0⟩ ⟨[], S'.sto⟩ [] H' B' → B.le B' → Rep T B' d v → Q v H'
  | .ex c fs S' => ∀ C dx H' B', T.cls c = some C → XdOk T B' dx fs → Rl ⟨T, Z0⟩ ⟨[], S'.sto⟩ [] H' B' → B.le B' → E (.ref C) dx H'
  | .st => False
/-- a def's promise, by its mirror -/
def spM (T : Cfg) (f : Fn) (n : Nat) : Sp := fun vs H Q E => ∃ ds st B, ds.length = n ∧ RepL T B ds vs ∧ Rl ⟨T, Z0⟩ ⟨[], st⟩ [] H B ∧ PostC T B Q E (f ds st)
/-- a def's mirror, by its body's -/
def fnM (n : Nat) (m : Stm) : Fn := fun ds st => match m ⟨ds.map Sl.va ++ List.replicate (n - ds.length) Sl.un, st⟩ with
  | .ok (.rt d) S => .ok d ⟨[], S.sto⟩
  | .ok .nx S => .ok .non ⟨[], S.sto⟩
  | .ok _ _ => .st
  | .ex c fs S => .ex c fs ⟨[], S.sto⟩
  | .st => .st

section
variable {T : Zu} {S : MS} {σ : L2.St} {H : Hp} {B : Bd}
theorem noOwn {st : List Cl} {i : Nat} {a : Addr} : ¬ Owns ⟨[], st⟩ [] i a := fun ⟨⟨s, e, _⟩, _⟩ => by simp at e
/-- the slots forgotten -/
theorem Rl.bare (r : Rl T S σ H B) : Rl ⟨T.toCfg, Z0⟩ ⟨[], S.sto⟩ [] H B :=
  ⟨rfl, r.g, r.lk, r.f, fun i s e => by simp at e, r.cl, r.ce, fun i a h => absurd h noOwn, r.fc, fun i j a h => absurd h noOwn, r.dc⟩
/-- a body's slots at its entry -/
theorem Rl.entry {T' : Zu} (e : T'.toCfg = T.toCfg) {st : List Cl} (r : Rl T ⟨[], st⟩ [] H B) {ds : List D} {vs : List V} (q : RepL T.toCfg B ds vs) {N : List Str} (hl : ds.length ≤ N.length) :
    Rl T' ⟨ds.map Sl.va ++ List.replicate (N.length - ds.length) Sl.un, st⟩ (L2.start N vs) H B := by
  have lv := q.length
  have no : ∀ {i a}, ¬ Owns ⟨ds.map Sl.va ++ List.replicate (N.length - ds.length) Sl.un, st⟩ (L2.start N vs) i a := fun {i a} ⟨⟨s, e1, l⟩, _⟩ => by
    have e1 : (ds.map Sl.va ++ List.replicate (N.length - ds.length) Sl.un)[i]? = some s := e1
    have : s ∈ ds.map Sl.va ++ List.replicate (N.length - ds.length) Sl.un := List.mem_of_getElem? e1
    rcases List.mem_append.mp this with h | h
    · obtain ⟨d, _, rfl⟩ := List.mem_map.mp h; cases l
    · rw [List.eq_of_mem_replicate h] at l; cases l
  refine ⟨?_, r.g, r.lk, r.f, fun i s e1 => ?_, r.cl, fun n c a => by rw [e]; exact r.ce n c a, fun i a h => absurd h no, r.fc, fun i j a h => absurd h no, r.dc⟩
  · show (L2.start N vs).length = (ds.map Sl.va ++ List.replicate (N.length - ds.length) Sl.un).length
    unfold L2.start
    simp only [List.length_append, List.length_map, List.length_replicate]
    omega
  · have e1 : (ds.map Sl.va ++ List.replicate (N.length - ds.length) Sl.un)[i]? = some s := e1
    by_cases hi : i < ds.length
    · rw [List.getElem?_append_left (by simpa using hi), List.getElem?_map] at e1
      obtain ⟨d, ed, rfl⟩ := Option.map_eq_some_iff.mp e1
      obtain ⟨v, ev, rv⟩ := q.get ed
      refine ⟨v, ?_, by rw [e]; exact rv⟩
      unfold L2.start
      rw [List.getElem?_append_left (by rw [List.length_map]; omega), List.getElem?_map, ev]
      rfl
    · rw [List.getElem?_append_right (by simpa using hi)] at e1
      have : s ∈ List.replicate (N.length - ds.length) Sl.un := List.mem_of_getElem? e1
      rw [List.eq_of_mem_replicate this]
      trivial
/-- all but the frozen part and the cells belongs to others -/
def Bd.out (B : Bd) (H : Hp) : Bd := { B with F := fun a => match B.G a with
  | none => if a ∈ B.ρ then B.F a else H a
  | some _ => none }
theorem Bd.lg_out : B.lg (B.out H) := ⟨fun _ _ h => h, fun _ _ h => h⟩
theorem Bd.out_some {a : Addr} {o : HO} (h : (B.out H).F a = some o) : B.G a = none ∧ ((a ∈ B.ρ ∧ B.F a = some o) ∨ (a ∉ B.ρ ∧ H a = some o)) := by
  have h : (match B.G a with | none => if a ∈ B.ρ then B.F a else H a | some _ => none) = some o := h
  cases e : B.G a with
  | none =>
    rw [e] at h
    have h : (if a ∈ B.ρ then B.F a else H a) = some o := h
    by_cases c : a ∈ B.ρ
    · rw [if_pos c] at h; exact ⟨rfl, .inl ⟨c, h⟩⟩
    · rw [if_neg c] at h; exact ⟨rfl, .inr ⟨c, h⟩⟩
  | some u => rw [e] at h; cases h
theorem Bd.out_of {a : Addr} {o : HO} (h1 : B.G a = none) (h2 : a ∉ B.ρ) (h : H a = some o) : (B.out H).F a = some o := by
  show (match B.G a with | none => if a ∈ B.ρ then B.F a else H a | some _ => none) = some o
  rw [h1]
  show (if a ∈ B.ρ then B.F a else H a) = some o
  rw [if_neg h2]; exact h
theorem Bd.out_in {a : Addr} (h1 : B.G a = none) (h2 : a ∈ B.ρ) : (B.out H).F a = B.F a := by
  show (match B.G a with | none => if a ∈ B.ρ then B.F a else H a | some _ => none) = B.F a
  rw [h1]
  show (if a ∈ B.ρ then B.F a else H a) = B.F a
  rw [if_pos h2]
theorem Rl.out (r : Rl T S σ H B) : Rl ⟨T.toCfg, Z0⟩ ⟨[], S.sto⟩ [] H (B.out H) :=
  ⟨rfl, r.g, r.lk, fun a o h => ⟨(Bd.out_some h).2.elim (fun q => (r.f a o q.2).1) fun q => q.2, .inl (Bd.out_some h).1⟩, fun i s e => by simp at e, r.cl, fun n c a e1 e2 => (r.ce n c a e1 e2).lg Bd.lg_out, fun i a h => absurd h noOwn,
    fun n c a e1 e2 => ⟨(r.fc n c a e1 e2).1, fun v => by rw [Bd.out_in (r.fc n c a e1 e2).1 (List.mem_of_getElem? e2)]; exact (r.fc n c a e1 e2).2 v⟩, fun i j a h => absurd h noOwn, r.dc⟩
def Bd.back (B' B : Bd) : Bd := { B' with F := B.F }
theorem Bd.lg_back {B' B : Bd} : B'.lg (B'.back B) := ⟨fun _ _ h => h, fun _ _ h => h⟩
theorem Owns.ntup (r : Rl T S σ H B) {i : Nat} {a : Addr} {o : HO} (h : Owns S σ i a) (ho : H a = some o) : tupO o = false := by
  obtain ⟨⟨s, e, lv⟩, q⟩ := h
  have x := r.sl i s e
  rw [q] at x
  cases s with
  | un => cases lv
  | va d => cases lv
  | xc c fs => cases lv
  | ol ds => obtain ⟨a', xs, e', k, _⟩ := x; cases e'; rw [ho] at k; cases k; rfl
  | od t kvs => obtain ⟨a', e', ⟨_, ks, k, _⟩ | ⟨_, ks, k, _⟩⟩ := x <;> (cases e'; rw [ho] at k; cases k; rfl)
  | oi c fs => obtain ⟨a', C, dx, vs, e', _, k, _⟩ := x; cases e'; rw [ho] at k; cases k; rfl
theorem Rl.back (r : Rl T S σ H B) {st : List Cl} {H' : Hp} {B' : Bd} (r' : Rl ⟨T.toCfg, Z0⟩ ⟨[], st⟩ [] H' B') (l : (B.out H).le B') : Rl T ⟨S.env, st⟩ σ H' (B'.back B) ∧ B.le (B'.back B) := by
  have le : B.le (B'.back B) := ⟨l.g, rfl, l.l, l.r, fun a h => (l.n a h).elim .inl fun q => by
    by_cases c : a ∈ B.ρ
    · exact .inl c
    · right
      cases e : B.F a with
      | none => rfl
      | some o =>
        cases eg : B.G a with
        | none => rw [Bd.out_of eg c (r.f a o e).1] at q; cases q
        | some u =>
          have h : a ∈ B'.ρ := h
          have := l.g a u eg
          rw [r'.cellG h] at this; cases this⟩
  have F' : ∀ {a o}, B.G a = none → a ∉ B.ρ → H a = some o → B'.F a = some o := fun h1 h2 h => by rw [l.f]; exact Bd.out_of h1 h2 h
  have inF : ∀ {a o}, B.F a = some o → B.G a = none → B'.F a = some o := fun {a o} h e => by
    by_cases c : a ∈ B.ρ
    · rw [l.f, Bd.out_in e c]; exact h
    · exact F' e c (r.f a o h).1
  have own : ∀ {i a}, Owns S σ i a → ∃ o, H a = some o ∧ H' a = some o ∧ B'.G a = none ∧ B'.F a = some o ∧ a ∉ B'.ρ := fun {i a} h => by
    obtain ⟨h1, h2, h3⟩ := r.fs i a h
    obtain ⟨o, ho⟩ := Owns.lv r h
    have hF := F' h1 h3 ho
    obtain ⟨k1, k2⟩ := r'.f a o hF
    refine ⟨o, ho, k1, ?_, hF, fun z => ?_⟩
    · rcases k2 with k2 | k2
      · exact k2
      · rw [Owns.ntup r h ho] at k2; cases k2
    · rcases l.n a z with q | q
      · exact h3 q
      · rw [← l.f] at q; rw [q] at hF; cases hF
  refine ⟨⟨r.ln, r'.g, r'.lk, fun a o h => ?_, fun i s e => ?_, r'.cl, fun n c a e1 e2 => (r'.ce n c a e1 e2).lg Bd.lg_back, fun i a h => ?_, fun n c a e1 e2 => ?_, r.ds, r'.dc⟩, le⟩
  · have h : B.F a = some o := h
    obtain ⟨h1, h2⟩ := r.f a o h
    cases e : B.G a with
    | none => exact r'.f a o (inF h e)
    | some u =>
      rcases h2 with h2 | h2
      · rw [h2] at e; cases e
      · have eu : u = o := by
          rcases r.g a u e with ⟨_, q⟩ | ⟨_, _, ob, q⟩
          · rw [h1] at q; cases q; rfl
          · rw [h1] at q; cases q; cases h2
        subst eu
        have e' := l.g a u e
        refine ⟨(r'.g a u e').ex ?_, .inr h2⟩
        cases u <;> first | rfl | cases h2
  · refine ((r.sl i s e).lg le.lg).heap fun a u lv eo hu => ?_
    obtain ⟨o, ho, k1, _⟩ := own (i := i) (a := a) ⟨⟨s, e, lv⟩, eo⟩
    rw [hu] at ho; cases ho
    exact k1
  · obtain ⟨h1, h2, h3⟩ := r.fs i a h
    obtain ⟨o, _, _, k2, _, k3⟩ := own h
    exact ⟨k2, h2, k3⟩
  · obtain ⟨k1, k2⟩ := r'.fc n c a e1 e2
    refine ⟨k1, fun v => ?_⟩
    show B.F a = none
    cases e : B.F a with
    | none => rfl
    | some o =>
      cases eg : B.G a with
      | none => have := inF e eg; rw [k2 v] at this; cases this
      | some u => have := l.g a u eg; rw [k1] at this; cases this
end

/-! ### what a def promises where no repr is under way -/
structure FnG (P : Program) (w : World) (K : PySem.W.Frag) (mg : Str → Option Value) (base : Heap) (k : Nat) (f : Addr) (fd : FuncData) (ps : List Str) (sp : Sp) : Prop where
  len : ∀ vs H Q E, sp vs H Q E → vs.length = ps.length
  run : ∀ (A : Around) (outer : List Env) (s : Shared) (H : Hp) (args : Args) (us : List Value) (vs : List V) (Q : VK) (E : XK), Room k A → A.guards = some [] → Env0 P w K mg base A outer s H → BindsTo s fd args (ps.zip us) → Vals vs us → sp vs H Q E →
    codeAny (model P w) A (.call (.ref f) args) (CR (L2.CX P w) outer P w H s Q E) s
theorem FnG.mono {P : Program} {w : World} {K : PySem.W.Frag} {mg : Str → Option Value} {base : Heap} {j k : Nat} {f : Addr} {fd : FuncData} {ps : List Str} {sp : Sp} (F : FnG P w K mg base j f fd ps sp) (h : j ≤ k) : FnG P w K mg base k f fd ps sp :=
  ⟨F.len, fun A outer s H args us vs Q E hr => F.run A outer s H args us vs Q E (hr.mono h)⟩
section
variable {X : Cx} {k : Nat} {f : Addr} {fd : FuncData} {ps : List Str} {sp : Sp} {E : L2.St → XK}
theorem run_fnG {pins : List (Addr × Obj)} {σ : L2.St} {H : Hp} {s : Shared} {Q : VK} {us : List Value} {vs : List V} (F : FnG X.prog X.w X.K X.mg X.base k f fd ps sp) (hr : Room k X.A) (hgd : X.A.guards = some []) (hb : Binds X.K fd ps []) (hx : PassesAt (L2.CX X.prog X.w) X σ (E σ))
    (I : Inv X pins σ H s) (r : Vals vs us) (h : sp vs H Q (E σ)) : wpAny (model X.prog X.w) X.A (PySem.call (.ref f) us) (EP X pins σ Q) X.xe s := by
  have hl : us.length = ps.length := by rw [← r.length]; exact F.len _ _ _ _ h
  have b := hb s us I.kIn (by rw [List.append_nil]; exact hl)
  rw [List.append_nil] at b
  refine wpAny_call (codeAny_mono (F.run X.A X.stack s H ⟨us, []⟩ us vs Q (E σ) hr hgd I.env0 b r h) fun r s' hq => ?_)
  rcases r with e | fl
  · exact hx pins H s e s' I hq
  · cases fl <;> first | exact I.after hq | exact False.elim hq
theorem pe_callG {x : Str} {p pos : Pos} {e : Expr} {es : List Expr} {t : TA} (F : FnG X.prog X.w X.K X.mg X.base k f fd ps sp) (hr : Room k X.A) (hgd : X.A.guards = some []) (hg : Gl X x) (hm : X.mg x = some (.ref f)) (hk : PySem.W.keepIn X.K (.ref f) = true) (hb : Binds X.K fd ps [])
    (hx : ∀ σ, PassesAt (L2.CX X.prog X.w) X σ (E σ)) (ha : PA X (e :: es) t) (hdb : (x == ("__debug__" : Str)) = false := by decide) (he : starEach (e :: es) X.env = (false, eval e X.env) :: starEach es X.env := by rfl) (hpl : (backTo pos (starEach es X.env)).any (·.1) = false := by rfl) :
    PE X (.Call (.Name x p) (e :: es) [] pos) (tCallS sp E t) := ⟨fun pins s σ H Q I h =>
  wpAny_Call_Name_kw (ld_glob I hg hm (PySem.W.callWith_K (h₀ := X.base) I.ok.mod.kin hk (thn (ha.run pos pins s σ H _ I h) fun us s1 ⟨vs, H1, I1, r, q⟩ => ⟨I1.kIn, run_fnG F hr hgd hb (hx σ) I1 r q⟩) he hpl) hdb)⟩
end
section
variable {P : Program} {w : World} {K : PySem.W.Frag} {mg : Str → Option Value} {base : Heap}
/-- a def of the text, by its body -/
theorem fn_ofG {x qual : Str} {st : Stmt} {f : Addr} {fd : FuncData} {N ps : List Str} {k : Nat} {sp : Sp} (F : Fun K x qual st f fd) (S : FnScope N ps (defScope st)) (len : ∀ vs H Q E, sp vs H Q E → vs.length = ps.length)
    (hbody : ∀ (cdv : Value) (A : Around) (outer : List Env) (s : Shared) (H : Hp) (vs : List V) (Q : VK) (E : XK), Room k (A.deeper (envOfC qual (defScope st) s.heap.objs.size f cdv)) → A.guards = some [] → sp vs H Q E →
      ∃ t, PSs (cxOf (L2.CX P w) P w K mg base N qual (defScope st) f cdv A outer s H E) (defBody st) t ∧ t { nx := fun _ H' => Q .non H', rt := Q } (L2.start N vs) H) : FnG P w K mg base (k + 1) f fd ps sp := by
  obtain ⟨oc, od, kV, doc, pm, an, cdv, ct, osl, rfl, lk, hcd⟩ := F.ex
  refine ⟨len, fun A outer s H args us vs Q E hr hgd e0 hb r hsp => ?_⟩
  obtain ⟨t, ht, hq⟩ := hbody cdv A outer s H vs Q E (hr.deeper _) hgd hsp
  have KX : K.In s.heap := e0.mod.kin.keeps fun b o e => (e0.bs b o e).1
  have lim : s.heap.NoLimit := e0.mod.nolimit.keeps fun b o e => (e0.bs b o e).1
  have hl := len _ _ _ _ hsp
  refine codeAny_call_function hr.depth (KX _ _ lk) rfl S.co S.gen rfl (PySem.W.codeRec_of KX hcd) (hb _ _ _ _ (wpAny_newFunctionEnv_cells S.kind (fun y hy => (S.par y.1 (List.of_mem_zip hy).1).imp id fun q => ⟨q, PySem.W.cellsFrom_some _ _ _ (.inl q)⟩) fun env he s1 x => ?_))
  subst he
  have I : Inv (cxOf (L2.CX P w) P w K mg base N qual (defScope st) f cdv A outer s H E) [] (L2.start N vs) H s1 := inv_start S hr.hd e0 hl r x
  refine ⟨lim.keeps x.toInCall.keep, codeAny_func (wpAny_mono (ht.run [] s1 (L2.start N vs) H _ I hq) (fun fl s' hs => ?_) fun _ _ hs => hs)⟩
  cases fl
  · obtain ⟨σ', H', J, q⟩ := hs
    exact ⟨.non, H', J.os, J.bare, J.base, J.hok, rfl, q⟩
  · exact hs.choose_spec.choose_spec.2.elim
  · exact hs.choose_spec.choose_spec.2.elim
  · obtain ⟨v, σ', H', J, rv, q⟩ := hs
    exact ⟨v, H', J.os, J.bare, J.base, J.hok, rv, q⟩
end

/-! ### the call -/
def callM (f : Fn) (ds : List D) (S : MS) : R D := match f ds S.sto with
  | .ok d S' => .ok d ⟨S.env, S'.sto⟩
  | .ex c fs S' => .ex c fs ⟨S.env, S'.sto⟩
  | .st => .st
def eCall (n : Nat) (f : Fn) (as : Exps) : Exp := fun S => (as S).bind fun ds S1 => if ds.length = n then callM f ds S1 else .st
theorem XdOk.lg {T : Cfg} {B B' : Bd} (h : B.lg B') {d : Option Addr} {fs : List (Str × D)} (x : XdOk T B d fs) : XdOk T B' d fs := x.elim .inl fun ⟨dx, vs, e, g, r⟩ => .inr ⟨dx, vs, e, h.g _ _ g, r.lg h⟩
theorem call_of {T : Su} {S : MS} {σ : L2.St} {H : Hp} {B : Bd} {f : Fn} {n : Nat} {ds : List D} {vs : List V} {Q : VK} (rl : Rl T.toZu S σ H B) (q : RepL T.toCfg B ds vs) (h : PostR T σ B (RelD T) Q (if ds.length = n then callM f ds S else .st)) :
    spM T.toCfg f n vs H Q (WE T.W σ) := by
  by_cases c : ds.length = n
  · rw [if_pos c] at h
    refine ⟨ds, S.sto, B.out H, c, q.lg Bd.lg_out, rl.out, ?_⟩
    unfold callM at h
    cases e : f ds S.sto with
    | st => rw [e] at h; exact h.elim
    | ok d S' =>
      rw [e] at h
      intro v H' B' r' l' rv
      obtain ⟨r2, l2⟩ := rl.back r' l'
      exact h v H' _ r2 l2 (rv.lg Bd.lg_back)
    | ex c fs S' =>
      rw [e] at h
      intro C dx H' B' ec xd r' l'
      obtain ⟨r2, l2⟩ := rl.back r' l'
      exact h C dx H' _ ec (xd.lg Bd.lg_back) r2 l2
  · rw [if_neg c] at h; exact h.elim
section
variable {X : Cx} {T : Su} {k : Nat} {f : Addr} {fd : FuncData} {ps : List Str} {m : Fn} {x : Str} {p pos : Pos} {e : Expr} {es : List Expr} {ees : Exps}
theorem r_call {n : Nat} (F : FnG X.prog X.w X.K X.mg X.base k f fd ps (spM T.toCfg m n)) (hr : Room k X.A) (hgd : X.A.guards = some []) (hg : Gl X x) (hm : X.mg x = some (.ref f)) (hk : PySem.W.keepIn X.K (.ref f) = true) (hb : Binds X.K fd ps []) (tk : Takes X T.W)
    (ha : PA X (e :: es) (TAm T ees)) (hdb : (x == ("__debug__" : Str)) = false := by decide) (he : starEach (e :: es) X.env = (false, eval e X.env) :: starEach es X.env := by rfl) (hpl : (backTo pos (starEach es X.env)).any (·.1) = false := by rfl) :
    PE X (.Call (.Name x p) (e :: es) [] pos) (TEm T (eCall n m ees)) := peI (pe_callG F hr hgd hg hm hk hb (fun σ => passAt tk σ) ha hdb he hpl) fun σ H Q ⟨S, B, rl, h⟩ =>
  ⟨S, B, rl, PostR.bind h fun ds S1 vs H1 B1 r1 l1 q1 h1 => call_of r1 q1 h1⟩
end

/-! ### the def -/
section
variable {P : Program} {w : World} {K : PySem.W.Frag} {mg : Str → Option Value} {base : Heap}
theorem def_of {T : Cfg} {x qual : Str} {st : Stmt} {f : Addr} {fd : FuncData} {N ps : List Str} {k : Nat} {m : Stm} (F : Fun K x qual st f fd) (S : FnScope N ps (defScope st))
    (hbody : ∀ (cdv : Value) (A : Around) (outer : List Env) (s : Shared) (H : Hp) (E : XK), Room k (A.deeper (envOfC qual (defScope st) s.heap.objs.size f cdv)) → A.guards = some [] →
      PSs (cxOf (L2.CX P w) P w K mg base N qual (defScope st) f cdv A outer s H E) (defBody st) (TSm ⟨⟨T, Z0⟩, fun c d _ H => E c d H⟩ m)) : FnG P w K mg base (k + 1) f fd ps (spM T (fnM N.length m) ps.length) := by
  have hpl : ps.length ≤ N.length := by have := congrArg List.length S.pre; rw [List.length_take] at this; omega
  refine fn_ofG F S (fun vs H Q E ⟨ds, st, B, hl, q, _⟩ => by rw [← q.length]; exact hl) fun cdv A outer s H vs Q E hr hgd ⟨ds, st, B, hl, q, rl, h⟩ => ⟨_, hbody cdv A outer s H E hr hgd, ?_⟩
  refine ⟨_, B, Rl.entry (T' := ⟨T, Z0⟩) rfl rl q (N := N) (by omega), ?_⟩
  unfold fnM at h
  cases e : m ⟨ds.map Sl.va ++ List.replicate (N.length - ds.length) Sl.un, st⟩ with
  | st => rw [e] at h; exact h.elim
  | ex c fs S' =>
    rw [e] at h
    exact fun C d σ' H' B' e1 z r l => h C d H' B' e1 z r.bare l
  | ok fl S' =>
    rw [e] at h
    cases fl with
    | nx => exact fun σ' H' B' r l => h .non H' B' r.bare l .non
    | bk => exact h.elim
    | ct => exact h.elim
    | rt d => exact fun v σ' H' B' r l rv => h v H' B' r.bare l rv
end
end Mir
/-! Mir9: list comprehensions. -/
namespace Mir
open PySem PySem.Spec PyProof.Rows L2

/-! ### targets of a block's own names -/
def PostW (T : Su) (B : Bd) (vs : List Nat) (σ0 : L2.St) (Q : L2.St → Hp → Prop) : Option MS → Prop
  | some S' => ∀ σ' H' B', Rl T.toZu S' σ' H' B' → B.le B' → wipe σ' vs = wipe σ0 vs → Q σ' H'
  | none => False
theorem PostW.le {T : Su} {B B1 : Bd} {vs : List Nat} {σ0 : L2.St} {Q : L2.St → Hp → Prop} {o : Option MS} (h : PostW T B vs σ0 Q o) (l : B.le B1) : PostW T B1 vs σ0 Q o := by
  cases o with
  | some S => exact fun σ' H' B' x l' => h σ' H' B' x (l.trans l')
  | none => exact h
def TWm (T : Su) (vs : List Nat) (g : Tgt) : TG := fun v σ H Q => ∃ S B d, Rl T.toZu S σ H B ∧ Rep T.toCfg B d v ∧ PostW T B vs σ Q (g d S)
def TWsm (T : Su) (vs : List Nat) (g : Tgts) : TGs := fun xs σ H Q => ∃ S B ds, Rl T.toZu S σ H B ∧ RepL T.toCfg B ds xs ∧ PostW T B vs σ Q (g ds S)
theorem wipe_set {σ : L2.St} {i : Nat} {x : Option V} : ∀ {vs : List Nat}, i ∈ vs → wipe (σ.set i x) vs = wipe σ vs
  | [], h => by cases h
  | v :: vs, h => by
    show (wipe (σ.set i x) vs).set v none = (wipe σ vs).set v none
    by_cases hv : i ∈ vs
    · rw [wipe_set hv]
    · have e : i = v := (List.mem_cons.mp h).resolve_right hv
      subst e
      have aux : ∀ {l : List Nat} {τ : L2.St}, i ∉ l → wipe (τ.set i x) l = (wipe τ l).set i x := by
        intro l
        induction l with
        | nil => intro τ _; rfl
        | cons b l ih =>
          intro τ hl
          simp only [List.mem_cons, not_or] at hl
          show (wipe (τ.set i x) l).set b none = ((wipe τ l).set b none).set i x
          rw [ih hl.2]
          exact List.set_comm _ _ hl.1
      rw [aux hv, List.set_set]
theorem wipe_in {σ : L2.St} {i : Nat} : ∀ {vs : List Nat}, i ∈ vs → (wipe σ vs)[i]? = if i < σ.length then some none else none
  | [], h => by cases h
  | v :: vs, h => by
    unfold wipe
    by_cases hv : v = i
    · subst hv
      by_cases c : v < σ.length
      · rw [List.getElem?_set_self (by rw [wipe_length]; exact c), if_pos c]
      · rw [List.getElem?_eq_none (by rw [List.length_set, wipe_length]; omega), if_neg c]
    · rw [List.getElem?_set_ne hv]
      exact wipe_in ((List.mem_cons.mp h).resolve_left fun z => hv z.symm)
theorem wipe_wipe {σ : L2.St} {vs : List Nat} : wipe (wipe σ vs) vs = wipe σ vs := by
  refine List.ext_getElem? fun i => ?_
  by_cases h : i ∈ vs
  · rw [wipe_in h, wipe_in h, wipe_length]
  · rw [wipe_out h]
section
variable {X : Cx} {T : Su} {pos : Pos} {g : Tgt} {gs : Tgts} {vs : List Nat}
theorem tw_name {i : Nat} {x : Str} (hv : i ∈ vs) (hN : X.N.Nodup) (hi : X.N[i]? = some x) (hx : Loc X.env.scope x) (hf : X.fn x = true ∨ X.env.scope.names.lookup x = some .local) : PG X (.Name x pos) (TWm T vs (gNm i)) :=
  pgI (pg_name hN hi hx hf) fun v σ H Q ⟨S, B, d, rl, q, h⟩ => by
    unfold gNm at h
    by_cases c : i < S.env.length
    · rw [if_pos c] at h
      exact h _ H B (rl.set c q) .rfl' (wipe_set hv)
    · rw [if_neg c] at h; exact h.elim
theorem tws_nil : PGs X [] (TWsm T vs gsNil) := pgsI pgs_nil fun xs σ H Q ⟨S, B, ds, rl, q, h⟩ => by
  cases q with
  | nil => exact ⟨rfl, h σ H B rl .rfl' rfl⟩
  | cons _ _ => exact h.elim
theorem tws_cons {e : Expr} {es : List Expr} (h1 : PG X e (TWm T vs g)) (h2 : PGs X es (TWsm T vs gs)) (hs : (assignEach (e :: es) X.env).map (·.2) = assign e X.env :: (assignEach es X.env).map (·.2) := by rfl) : PGs X (e :: es) (TWsm T vs (gsCons g gs)) :=
  pgsI (pgs_cons h1 h2 hs) fun xs σ H Q ⟨S, B, ds, rl, q, h⟩ => by
    cases q with
    | nil => exact h.elim
    | @cons d ds v xs q1 q2 =>
      refine ⟨v, xs, rfl, S, B, d, rl, q1, ?_⟩
      have h' : PostW T B vs σ Q ((g d S).bind fun S1 => gs ds S1) := h
      cases e1 : g d S with
      | some S1 =>
        rw [e1] at h'
        refine fun σ1 H1 B1 r1 l1 w1 => ⟨S1, B1, ds, r1, q2.le l1, ?_⟩
        have h2 := PostW.le (o := gs ds S1) h' l1
        cases e2 : gs ds S1 with
        | none => rw [e2] at h2; exact h2
        | some S2 => rw [e2] at h2; exact fun σ2 H2 B2 r2 l2 w2 => h2 σ2 H2 B2 r2 l2 (w2.trans w1)
      | none => rw [e1] at h'; exact h'.elim
theorem tw_tup {es : List Expr} {k n : Nat} (hK : T.K = X.K) (hc : X.calm = true) (h : PGs X es (TWsm T vs gs)) (hn : (assignEach es X.env).length = n := by rfl) (hst : (assignEach es X.env).findIdx? (·.1) = none := by rfl) : PG X (.Tuple es k pos) (TWm T vs (gTp n gs)) :=
  pgI (pg_tup hc h hn hst) fun v σ H Q ⟨S, B, d, rl, q, h⟩ => by
    cases q with
    | @tup ds a xs ha ra =>
      have h' : PostW T B vs σ Q (if ds.length = n then gs ds S else none) := h
      by_cases c : ds.length = n
      · rw [if_pos c] at h'
        exact ⟨a, xs, rfl, rl.sqT ha, by rw [← ra.length]; exact c, S, B, ds, rl, ra, h'⟩
      · rw [if_neg c] at h'; exact h'.elim
    | _ => exact h.elim
end

/-! ### tests -/
def tYesM : Tst := fun S => .ok true S
section
variable {X : Cx} {T : Su}
theorem ptsI {ifs : List Expr} {t t' : TT} (h : PTs X ifs t) (k : ∀ σ H Q, t' σ H Q → t σ H Q) : PTs X ifs t' := ⟨fun pins s σ H Q I q => h.run pins s σ H Q I (k σ H Q q)⟩
theorem w_nil : PTs X [] (TTm T tYesM) := ptsI pts_nil fun σ H Q ⟨S, B, rl, h⟩ => h true H B rl .rfl' rfl
theorem w_one {c : Expr} {t : Tst} (h : PT X c (TTm T t)) : PTs X [c] (TTm T t) := pts_one h
end

/-! ### slots wiped and given back -/
def wipeL (l : List Sl) : List Nat → List Sl
  | [] => l
  | v :: vs => (wipeL l vs).set v .un
def MS.wipe (S : MS) (vs : List Nat) : MS := ⟨wipeL S.env vs, S.sto⟩
def backL (l0 l : List Sl) : List Nat → List Sl
  | [] => l
  | v :: vs => (backL l0 l vs).set v ((l0[v]?).getD .un)
def MS.back (S S0 : MS) (vs : List Nat) : MS := ⟨backL S0.env S.env vs, S.sto⟩
theorem wipeL_length {l : List Sl} : ∀ {vs : List Nat}, (wipeL l vs).length = l.length
  | [] => rfl
  | v :: vs => by unfold wipeL; rw [List.length_set, wipeL_length]
theorem backL_length {l0 l : List Sl} : ∀ {vs : List Nat}, (backL l0 l vs).length = l.length
  | [] => rfl
  | v :: vs => by unfold backL; rw [List.length_set, backL_length]
theorem wipeL_out {l : List Sl} {i : Nat} : ∀ {vs : List Nat}, i ∉ vs → (wipeL l vs)[i]? = l[i]?
  | [], _ => rfl
  | v :: vs, h => by
    simp only [List.mem_cons, not_or] at h
    unfold wipeL
    rw [List.getElem?_set_ne (fun e => h.1 e.symm)]
    exact wipeL_out h.2
theorem wipeL_in {l : List Sl} {i : Nat} {s : Sl} : ∀ {vs : List Nat}, i ∈ vs → (wipeL l vs)[i]? = some s → s = .un
  | [], h, _ => by cases h
  | v :: vs, h, e => by
    unfold wipeL at e
    by_cases hv : v = i
    · subst hv
      by_cases hl : v < (wipeL l vs).length
      · rw [List.getElem?_set_self hl] at e; cases e; rfl
      · rw [List.getElem?_eq_none (by simpa using hl)] at e; cases e
    · rw [List.getElem?_set_ne hv] at e
      exact wipeL_in ((List.mem_cons.mp h).resolve_left fun z => hv z.symm) e
theorem backL_out {l0 l : List Sl} {i : Nat} : ∀ {vs : List Nat}, i ∉ vs → (backL l0 l vs)[i]? = l[i]?
  | [], _ => rfl
  | v :: vs, h => by
    simp only [List.mem_cons, not_or] at h
    unfold backL
    rw [List.getElem?_set_ne (fun e => h.1 e.symm)]
    exact backL_out h.2
theorem backL_in {l0 l : List Sl} {i : Nat} {s : Sl} : ∀ {vs : List Nat}, i ∈ vs → (backL l0 l vs)[i]? = some s → s = (l0[i]?).getD .un
  | [], h, _ => by cases h
  | v :: vs, h, e => by
    unfold backL at e
    by_cases hv : v = i
    · subst hv
      by_cases hl : v < (backL l0 l vs).length
      · rw [List.getElem?_set_self hl] at e; cases e; rfl
      · rw [List.getElem?_eq_none (by simpa using hl)] at e; cases e
    · rw [List.getElem?_set_ne hv] at e
      exact backL_in ((List.mem_cons.mp h).resolve_left fun z => hv z.symm) e
section
variable {T : Zu} {S S0 : MS} {σ : L2.St} {H H0 : Hp} {B B0 : Bd} {vs : List Nat}
theorem Rl.wipe (r : Rl T S σ H B) : Rl T (S.wipe vs) (L2.wipe σ vs) H B := by
  have ow : ∀ {i a}, Owns (S.wipe vs) (L2.wipe σ vs) i a → Owns S σ i a := fun {i a} ⟨⟨s, e, l⟩, h⟩ => by
    have e : (wipeL S.env vs)[i]? = some s := e
    by_cases hi : i ∈ vs
    · rw [wipeL_in hi e] at l; cases l
    · rw [wipeL_out hi] at e
      exact ⟨⟨s, e, l⟩, (wipe_some h).1⟩
  refine ⟨?_, r.g, r.lk, r.f, fun i s e => ?_, r.cl, r.ce, fun i a h => r.fs i a (ow h), r.fc, fun i j a h1 h2 => r.ds i j a (ow h1) (ow h2), r.dc⟩
  · show (L2.wipe σ vs).length = (wipeL S.env vs).length
    rw [wipe_length, wipeL_length]; exact r.ln
  · have e : (wipeL S.env vs)[i]? = some s := e
    by_cases hi : i ∈ vs
    · rw [wipeL_in hi e]; trivial
    · rw [wipeL_out hi] at e
      rw [wipe_out hi]
      exact r.sl i s e
def Sl.dead : Sl → Bool
  | .un => true
  | .va _ => true
  | .xc _ _ => true
  | _ => false
theorem SlOk.dead {s : Sl} {o : Option (Option V)} (h : s.dead = true) (x : SlOk T B H s o) : SlOk T B H0 s o := x.heap fun a u lv _ _ => by cases s <;> first | (cases lv; done) | (cases h; done)
theorem Rl.backS (r0 : Rl T S0 σ H0 B0) (r : Rl T S (L2.wipe σ vs) H B) (l : B0.lg B) (hd : ∀ i ∈ vs, ((S0.env[i]?).getD .un).dead = true) : Rl T (S.back S0 vs) σ H B := by
  have dl : ∀ {s : Sl}, s.dead = true → s.live = false := fun {s} h => by cases s <;> first | rfl | cases h
  have ow : ∀ {i a}, Owns (S.back S0 vs) σ i a → Owns S (L2.wipe σ vs) i a := fun {i a} ⟨⟨s, e, lv⟩, h⟩ => by
    have e : (backL S0.env S.env vs)[i]? = some s := e
    by_cases hi : i ∈ vs
    · have q := hd i hi
      rw [← backL_in hi e] at q
      rw [dl q] at lv; cases lv
    · rw [backL_out hi] at e
      exact ⟨⟨s, e, lv⟩, by rw [wipe_out hi]; exact h⟩
  refine ⟨?_, r.g, r.lk, r.f, fun i s e => ?_, r.cl, r.ce, fun i a h => r.fs i a (ow h), r.fc, fun i j a h1 h2 => r.ds i j a (ow h1) (ow h2), r.dc⟩
  · show σ.length = (backL S0.env S.env vs).length
    rw [backL_length, ← r.ln, wipe_length]
  · have e : (backL S0.env S.env vs)[i]? = some s := e
    by_cases hi : i ∈ vs
    · have q := hd i hi
      have es := backL_in hi e
      rw [← es] at q
      cases e0 : S0.env[i]? with
      | none => rw [e0] at es; subst es; trivial
      | some s0 =>
        rw [e0] at es
        have es : s = s0 := es
        subst es
        exact (((r0.sl i s e0).lg l)).dead q
    · rw [backL_out hi] at e
      have x := r.sl i s e
      rw [wipe_out hi] at x
      exact x

/-! ### the list that grows belongs to others while it grows -/
def Bd.fd (B : Bd) (p : Addr) (o : HO) : Bd := { B with F := upd B.F p o }
theorem Bd.lg_fd {B : Bd} {p : Addr} {o : HO} : B.lg (B.fd p o) := ⟨fun _ _ h => h, fun _ _ h => h⟩
theorem Bd.fd_lg {B : Bd} {p : Addr} {o : HO} : (B.fd p o).lg B := ⟨fun _ _ h => h, fun _ _ h => h⟩
theorem fd_le {B B4 : Bd} {p : Addr} {o : HO} (l : (B.fd p o).le B4) : ∃ B', B4 = B'.fd p o ∧ B.le B' ∧ (p ∉ B.ρ → p ∉ B'.ρ) := by
  obtain ⟨G, F, ρ, L⟩ := B4
  have e : F = upd B.F p o := l.f
  subst e
  exact ⟨⟨G, B.F, ρ, L⟩, rfl, ⟨l.g, rfl, l.l, l.r, fun a h => (l.n a h).elim .inl fun q => .inr (by
    have q : upd B.F p o a = none := q
    by_cases z : a = p
    · subst z; rw [upd_same] at q; cases q
    · rw [upd_ne z] at q; exact q)⟩, fun h z => (l.n p z).elim h fun q => by
    have q : upd B.F p o p = none := q
    rw [upd_same] at q; cases q⟩
theorem fd_fd {B : Bd} {p : Addr} {o o' : HO} : (B.fd p o).fd p o' = B.fd p o' := by
  show ({ B with F := upd (upd B.F p o) p o' } : Bd) = { B with F := upd B.F p o' }
  have e : upd (upd B.F p o) p o' = upd B.F p o' := by
    funext b
    by_cases h : b = p
    · subst h; rw [upd_same, upd_same]
    · rw [upd_ne h, upd_ne h, upd_ne h]
  rw [e]
/-- it is laid -/
theorem Rl.laidF (r : Rl T S σ H B) {p : Addr} (hp : H p = none) (o : HO) : Rl T S σ (upd H p o) (B.fd p o) := by
  have ne : ∀ {a u}, H a = some u → a ≠ p := fun e z => by rw [z, hp] at e; cases e
  have up : ∀ {a u}, H a = some u → upd H p o a = some u := fun e => by rw [upd_ne (ne e)]; exact e
  refine ⟨r.ln, fun a u e => (r.g a u e).mono fun _ => up, r.lk, fun a u e => ?_, fun i s e => ((r.sl i s e).lg Bd.lg_fd).heap fun a u _ _ k => up k, r.cl, fun n c a e1 e2 => ((r.ce n c a e1 e2).lg Bd.lg_fd).heap fun u k => up k, fun i a h => ?_, fun n c a e1 e2 => ?_, r.ds, r.dc⟩
  · have e : upd B.F p o a = some u := e
    by_cases z : a = p
    · subst z
      rw [upd_same] at e; cases e
      exact ⟨upd_same, .inl (r.gnone hp)⟩
    · rw [upd_ne z] at e
      exact ⟨up (r.f a u e).1, (r.f a u e).2⟩
  · obtain ⟨h1, h2, h3⟩ := r.fs i a h
    obtain ⟨u, k⟩ := Owns.lv r h
    exact ⟨h1, by show upd B.F p o a = none; rw [upd_ne (ne k)]; exact h2, h3⟩
  · obtain ⟨h1, h2⟩ := r.fc n c a e1 e2
    obtain ⟨u, k⟩ := r.cellv (List.mem_of_getElem? e2)
    exact ⟨h1, fun v => by show upd B.F p o a = none; rw [upd_ne (ne k)]; exact h2 v⟩
theorem Rl.fdAt {p : Addr} {o : HO} (r : Rl T S σ H (B.fd p o)) : H p = some o := (r.f p o upd_same).1
/-- it changes -/
theorem Rl.mutF {p : Addr} {o : HO} (r : Rl T S σ H (B.fd p o)) (ho : tupO o = false) (hr : p ∉ B.ρ) (o' : HO) : Rl T S σ (upd H p o') (B.fd p o') := by
  have gp : B.G p = none := by
    rcases (r.f p o upd_same).2 with h | h
    · exact h
    · rw [ho] at h; cases h
  have ne : ∀ {i a}, Owns S σ i a → a ≠ p := fun h z => by
    have := (r.fs _ _ h).2.1
    rw [z] at this
    have this : upd B.F p o p = none := this
    rw [upd_same] at this; cases this
  have nc : ∀ {a}, a ∈ B.ρ → a ≠ p := fun h z => by subst z; exact hr h
  have up : ∀ {a u}, a ≠ p → H a = some u → upd H p o' a = some u := fun z e => by rw [upd_ne z]; exact e
  have fe : ∀ {a}, a ≠ p → (B.fd p o).F a = (B.fd p o').F a := fun z => by show upd B.F p o _ = upd B.F p o' _; rw [upd_ne z, upd_ne z]
  refine ⟨r.ln, fun a u e => (r.g a u e).mono fun _ => up fun z => ?_, r.lk, fun a u e => ?_, fun i s e => (SlOk.lg (B := B.fd p o) (B' := B.fd p o') ⟨fun _ _ h => h, fun _ _ h => h⟩ (r.sl i s e)).heap fun a u l eo k => up (ne ⟨⟨s, e, l⟩, eo⟩) k, r.cl,
    fun n c a e1 e2 => (CeOk.lg (B := B.fd p o) (B' := B.fd p o') ⟨fun _ _ h => h, fun _ _ h => h⟩ (r.ce n c a e1 e2)).heap fun u k => up (nc (List.mem_of_getElem? e2)) k, fun i a h => ?_, fun n c a e1 e2 => ?_, r.ds, r.dc⟩
  · have e : B.G a = some u := e
    rw [z, gp] at e; cases e
  · have e : upd B.F p o' a = some u := e
    by_cases z : a = p
    · subst z
      rw [upd_same] at e; cases e
      exact ⟨upd_same, .inl gp⟩
    · rw [upd_ne z] at e
      have q := r.f a u (by show upd B.F p o a = some u; rw [upd_ne z]; exact e)
      exact ⟨up z q.1, q.2⟩
  · obtain ⟨h1, h2, h3⟩ := r.fs i a h
    exact ⟨h1, by rw [← fe (ne h)]; exact h2, h3⟩
  · obtain ⟨h1, h2⟩ := r.fc n c a e1 e2
    exact ⟨h1, fun v => by rw [← fe (nc (List.mem_of_getElem? e2))]; exact h2 v⟩
/-- it is given back as new -/
theorem Rl.unfd {p : Addr} {o : HO} (r : Rl T S σ H (B.fd p o)) (ho : tupO o = false) (hr : p ∉ B.ρ) (hf : B.F p = none) : ∃ H', H' p = none ∧ H = upd H' p o ∧ Rl T S σ H' B := by
  have hp := r.fdAt
  have gp : B.G p = none := by
    rcases (r.f p o upd_same).2 with h | h
    · exact h
    · rw [ho] at h; cases h
  have ne : ∀ {i a}, Owns S σ i a → a ≠ p := fun h z => by
    have := (r.fs _ _ h).2.1
    rw [z] at this
    have this : upd B.F p o p = none := this
    rw [upd_same] at this; cases this
  have nc : ∀ {a}, a ∈ B.ρ → a ≠ p := fun h z => by subst z; exact hr h
  let H' : Hp := fun b => if b = p then none else H b
  have up : ∀ {a u}, a ≠ p → H a = some u → H' a = some u := fun {a u} z e => by show (if a = p then none else H a) = some u; rw [if_neg z]; exact e
  refine ⟨H', if_pos rfl, ?_, r.ln, fun a u e => (r.g a u e).mono fun _ => up fun z => ?_, r.lk, fun a u e => ?_, fun i s e => ((r.sl i s e).lg Bd.fd_lg).heap fun a u l eo k => up (ne ⟨⟨s, e, l⟩, eo⟩) k, r.cl,
    fun n c a e1 e2 => ((r.ce n c a e1 e2).lg Bd.fd_lg).heap fun u k => up (nc (List.mem_of_getElem? e2)) k, fun i a h => ?_, fun n c a e1 e2 => ?_, r.ds, r.dc⟩
  · funext b
    by_cases z : b = p
    · subst z; rw [upd_same, hp]
    · rw [upd_ne z]; show H b = if b = p then none else H b; rw [if_neg z]
  · rw [z, gp] at e; cases e
  · have z : a ≠ p := fun z => by rw [z, hf] at e; cases e
    have q := r.f a u (by show upd B.F p o a = some u; rw [upd_ne z]; exact e)
    exact ⟨up z q.1, q.2⟩
  · obtain ⟨h1, h2, h3⟩ := r.fs i a h
    have h2 : upd B.F p o a = none := h2
    rw [upd_ne (ne h)] at h2
    exact ⟨h1, h2, h3⟩
  · obtain ⟨h1, h2⟩ := r.fc n c a e1 e2
    refine ⟨h1, fun v => ?_⟩
    have h2 : upd B.F p o a = none := h2 v
    rw [upd_ne (nc (List.mem_of_getElem? e2))] at h2
    exact h2
end

/-! ### the comprehension -/
def lcL (own : List Nat) (g : Tgt) (t : Tst) (e : Exp) : List D → MS → List D → R (List D)
  | [], S, acc => .ok acc S
  | d :: ds, S, acc => match g d S with
    | none => .st
    | some S1 => match t S1 with
      | .ok false S2 => lcL own g t e ds (S2.wipe own) acc
      | .ok true S2 => match e S2 with
        | .ok y S3 => if acc.length < sizeLine then lcL own g t e ds (S3.wipe own) (acc ++ [y]) else .st
        | _ => .st
      | _ => .st
def fLc (own : List Nat) (its : Exps) (g : Tgt) (t : Tst) (e : Exp) : Frs := fun S => (its S).bind fun ds S1 =>
  if (own.all fun i => ((S1.env[i]?).getD .un).dead) = true then (lcL own g t e ds (S1.wipe own) []).bind fun xs S2 => .ok (.ol xs) (S2.back S1 own) else .st
/-- T within a block: nothing is let out -/
abbrev Su.blk (T : Su) : Su := { T with W := fun _ _ _ _ => False }
theorem PostF.le {T : Su} {σ : L2.St} {B B1 : Bd} {Q : VK} {r : R Sl} (h : PostF T σ B Q r) (l : B.le B1) : PostF T σ B1 Q r := by
  cases r with
  | ok s S => exact fun p o H' B' hp x l' => h p o H' B' hp x (l.trans l')
  | ex c fs S => exact fun C d H' B' e z x l' => h C d H' B' e z x (l.trans l')
  | st => exact h
theorem PostF.toI {T : Su} {σ : L2.St} {B : Bd} {P : VK} {Q : It → Hp → Prop} {r : R (List D)} {f : List D → MS → R Sl} (h : PostF T σ B P (r.bind f))
    (k : ∀ ds S1 J H1 B1, Rl T.toZu S1 σ H1 B1 → B.le B1 → ItOk T.toZu J ds B1 → PostF T σ B1 P (f ds S1) → Q J H1) : PostI T σ B Q r := by
  cases r with
  | ok ds S => exact fun J H' B' x l o => k ds S J H' B' x l o (PostF.le (r := f ds S) h l)
  | ex c fs S => exact h
  | st => exact h
theorem lc_of {T : Su} {own : List Nat} {its : Exps} {g : Tgt} {t : Tst} {e : Exp} {σ : L2.St} {H : Hp} {Q : VK} (h : TFm T (fLc own its g t e) σ H Q) :
    tLc (TIm T its) (TWm T.blk own g) (TTm T.blk t) (TEm T.blk e) own σ H Q := by
  obtain ⟨S, B, rl, h⟩ := h
  refine ⟨S, B, rl, PostF.toI h fun ds S1 J H1 B1 r1 l1 o h1 => ?_⟩
  have h1' : PostF T σ B1 Q (if (own.all fun i => ((S1.env[i]?).getD .un).dead) = true then (lcL own g t e ds (S1.wipe own) []).bind fun xs S2 => .ok (.ol xs) (S2.back S1 own) else .st) := h1
  by_cases c : (own.all fun i => ((S1.env[i]?).getD .un).dead) = true
  case neg => rw [if_neg c] at h1'; exact h1'.elim
  rw [if_pos c] at h1'
  have hd : ∀ i ∈ own, ((S1.env[i]?).getD .un).dead = true := List.all_eq_true.mp c
  intro D hD
  have fD : B1.F D = none := by
    cases q : B1.F D with
    | none => rfl
    | some u => rw [(r1.f D u q).1] at hD; cases hD
  have rD : D ∉ B1.ρ := fun z => by obtain ⟨u, k⟩ := r1.cellv z; rw [hD] at k; cases k
  refine ⟨fun i m H' => m = ds.length - i ∧ i ≤ ds.length ∧ ∃ S' B' acc xs, Rl T.toZu S' (L2.wipe σ own) H' (B'.fd D (.lst xs)) ∧ D ∉ B'.ρ ∧ B1.le B' ∧ RepL T.toCfg B' acc xs ∧
      PostF T σ B' Q ((lcL own g t e (ds.drop i) S' acc).bind fun xs S2 => .ok (.ol xs) (S2.back S1 own)), ⟨ds.length, rfl, Nat.zero_le _, S1.wipe own, B1, [], [], (r1.wipe).laidF hD _, rD, .rfl', .nil, h1'⟩, ?_⟩
  rintro i m H' ⟨rfl, hi, S', B', acc, xs, r', nD, l', ra, h'⟩
  by_cases hlt : i < ds.length
  · right
    rw [List.drop_eq_getElem_cons hlt] at h'
    -- J serves in any later state
    have le1 : B1.lg (B'.fd D (.lst xs)) := ⟨l'.g, l'.r⟩
    obtain ⟨go, yl⟩ := o.go i S' (L2.wipe σ own) H' (B'.fd D (.lst xs)) ds[i] r' le1 (List.getElem?_eq_getElem hlt)
    refine ⟨go, fun H3 => ∃ S3 B3 acc xs, Rl T.toZu S3 (L2.wipe σ own) H3 (B3.fd D (.lst xs)) ∧ D ∉ B3.ρ ∧ B1.le B3 ∧ RepL T.toCfg B3 acc xs ∧ PostF T σ B3 Q ((lcL own g t e (ds.drop (i + 1)) S3 acc).bind fun xs S2 => .ok (.ol xs) (S2.back S1 own)),
      fun H3 n => ⟨ds.length - (i + 1), by omega, rfl, hlt, n⟩, fun x H2 hy => ?_⟩
    obtain ⟨B2', r2, l2', q2⟩ := yl x H2 hy
    obtain ⟨B2, rfl, l2, n2⟩ := fd_le l2'
    refine ⟨S', _, ds[i], r2, q2, ?_⟩
    unfold lcL at h'
    cases eg : g ds[i] S' with
    | none => rw [eg] at h'; exact h'.elim
    | some S3 =>
      rw [eg] at h'
      intro σ3 H3 B3' r3 l3' w3
      obtain ⟨B3, rfl, l3, n3⟩ := fd_le l3'
      rw [wipe_wipe] at w3
      refine ⟨w3, S3, _, r3, ?_⟩
      dsimp only at h'
      cases et : t S3 with
      | st => rw [et] at h'; exact h'.elim
      | ex _ _ _ => rw [et] at h'; exact h'.elim
      | ok b S4 =>
        rw [et] at h'
        intro b' H4 B4' r4 l4' eb
        cases eb
        obtain ⟨B4, rfl, l4, n4⟩ := fd_le l4'
        have l04 : B'.le B4 := (l2.trans l3).trans l4
        cases b with
        | false =>
          have h' : PostF T σ B' Q ((lcL own g t e (ds.drop (i + 1)) (S4.wipe own) acc).bind fun xs S2 => .ok (.ol xs) (S2.back S1 own)) := h'
          refine iteF ⟨S4.wipe own, B4, acc, xs, ?_, n4 (n3 (n2 nD)), l'.trans l04, ra.le l04, PostF.le h' l04⟩
          have := r4.wipe (vs := own)
          rw [w3] at this
          exact this
        | true =>
          refine iteT ⟨S4, _, r4, ?_⟩
          dsimp only at h'
          cases ee : e S4 with
          | st => rw [ee] at h'; exact h'.elim
          | ex _ _ _ => rw [ee] at h'; exact h'.elim
          | ok y S5 =>
            rw [ee] at h'
            have h' : PostF T σ B' Q ((if acc.length < sizeLine then lcL own g t e (ds.drop (i + 1)) (S5.wipe own) (acc ++ [y]) else .st).bind fun xs S2 => .ok (.ol xs) (S2.back S1 own)) := h'
            intro v H5 B5' r5 l5' rv
            obtain ⟨B5, rfl, l5, n5⟩ := fd_le l5'
            have l05 : B'.le B5 := l04.trans l5
            by_cases hz : acc.length < sizeLine
            · rw [if_pos hz] at h'
              refine ⟨xs, r5.fdAt, by rw [← ra.length]; exact hz, S5.wipe own, B5, acc ++ [y], xs ++ [v], ?_, n5 (n4 (n3 (n2 nD))), l'.trans l05, (ra.le l05).append (.cons (rv.lg Bd.fd_lg) .nil), PostF.le h' l05⟩
              have := (r5.mutF rfl (n5 (n4 (n3 (n2 nD)))) (.lst (xs ++ [v]))).wipe (vs := own)
              rw [w3] at this
              exact this
            · rw [if_neg hz] at h'; exact h'.elim
  · left
    have e0 : i = ds.length := by omega
    subst e0
    rw [List.drop_length] at h'
    have h' : PostF T σ B' Q (.ok (.ol acc) (S'.back S1 own)) := h'
    refine ⟨o.stop _ S' (L2.wipe σ own) H' _ r' ⟨l'.g, l'.r⟩ (Nat.le_refl _), ?_⟩
    obtain ⟨H0, n0, eH, r0⟩ := r'.unfd rfl nD (by rw [l'.f]; exact fD)
    subst eH
    exact h' D (.lst xs) H0 B' n0 (r1.backS r0 l'.lg hd) .rfl' rfl ⟨D, xs, rfl, upd_same, ra⟩
section
variable {X : Cx} {T : Su} {elt tg iter : Expr} {ifs : List Expr} {scope : Scope} {own : List (Str × Nat)} {vs : List Nat} {pos : Pos} {its : Exps} {g : Tgt} {t : Tst} {e : Exp}
/-- a comprehension, a new list -/
theorem f_lc (hc : X.calm = true) (hN : X.N.Nodup) (hi : PI X tg iter (TIm T its)) (ok : BlkOk X.N X.env.scope scope own)
    (hg : ∀ (s : Shared) (H : Hp) (C : Addr) (cl : List (Str × Addr)) (fp : List Addr), PG (X.blk s H scope (compEnvC scope cl C X.env) fp) tg (TWm T.blk (own.map (·.2)) g)) (ht : ∀ (s : Shared) (H : Hp) (C : Addr) (cl : List (Str × Addr)) (fp : List Addr), PTs (X.blk s H scope (compEnvC scope cl C X.env) fp) ifs (TTm T.blk t))
    (he : ∀ (s : Shared) (H : Hp) (C : Addr) (cl : List (Str × Addr)) (fp : List Addr), PE (X.blk s H scope (compEnvC scope cl C X.env) fp) elt (TEm T.blk e)) (hs : ∀ x, foldedSetIterable iter X.env x = pure x := by intro _; rfl) :
    PE X (.ListComp elt [⟨tg, iter, ifs, 0⟩] scope pos) (TFm T (fLc (own.map (·.2)) its g t e)) := peI (pe_lc hc hN hi ok hg ht he hs) fun σ H Q h => lc_of h
/-- name = [..] on one line -/
theorem y_setLc {i : Nat} {y : Str} {py spos : Pos} (hc : X.calm = true) (hN : X.N.Nodup) (hy : X.N[i]? = some y) (hyl : X.env.scope.names.lookup y = some .local)
    (hsw : swapsWith (.ListComp elt [⟨tg, iter, ifs, 0⟩] scope pos) (some (.Name y py)) spos.line X.env = pure true) (hi : PI X tg iter (TIm T its)) (ok : BlkOk X.N X.env.scope scope own)
    (hg : ∀ (s : Shared) (H : Hp) (C : Addr) (cl : List (Str × Addr)) (fp : List Addr), PG (X.blk s H scope (compEnvC scope cl C X.env) fp) tg (TWm T.blk (own.map (·.2)) g)) (ht : ∀ (s : Shared) (H : Hp) (C : Addr) (cl : List (Str × Addr)) (fp : List Addr), PTs (X.blk s H scope (compEnvC scope cl C X.env) fp) ifs (TTm T.blk t))
    (he : ∀ (s : Shared) (H : Hp) (C : Addr) (cl : List (Str × Addr)) (fp : List Addr), PE (X.blk s H scope (compEnvC scope cl C X.env) fp) elt (TEm T.blk e)) (hs : ∀ x, foldedSetIterable iter X.env x = pure x := by intro _; rfl) :
    PS X (.Assign [.Name y py] (.ListComp elt [⟨tg, iter, ifs, 0⟩] scope pos) spos) (TSm T (sOwn i (fLc (own.map (·.2)) its g t e))) :=
  psI (ps_setLc hc hN hy hyl hsw hi ok hg ht he hs) fun D σ H h => lc_of (own_of h)
end
end Mir
/-! Mir10: a look at what is one's own, without freezing it. -/
namespace Mir
open PySem PySem.Spec PyProof.Rows L2

mutual
/-- no list, dict, instance within -/
def D.flat : D → Bool
  | .non => true
  | .bl _ => true
  | .int _ => true
  | .str _ => true
  | .tup ds => D.flats ds
  | _ => false
def D.flats : List D → Bool
  | [] => true
  | d :: ds => d.flat && D.flats ds
end
def Sl.frz : Sl → Sl
  | .ol ds => .va (.lst ds)
  | .od t kvs => .va (.dic t kvs)
  | .oi c fs => .va (.ins c fs)
  | s => s
def hideS (is : List Nat) (s : Sl) (i : Nat) : Sl := if s.live = true then (if i ∈ is then s.frz else .un) else s
def MS.hide (S : MS) (is : List Nat) : MS := ⟨S.env.mapIdx fun i s => hideS is s i, S.sto.map fun _ => Cl.un⟩
def ownA (S : MS) (σ : L2.St) (i : Nat) : Option Addr := match S.env[i]?, (σ[i]? : Option (Option V)) with
  | some s, some (some (.ref a)) => if s.live = true then some a else none
  | _, _ => none
theorem ownA_iff {S : MS} {σ : L2.St} {i : Nat} {a : Addr} : ownA S σ i = some a ↔ Owns S σ i a := by
  unfold ownA
  constructor
  · intro h
    split at h
    · rename_i s b e1 e2
      by_cases c : s.live = true
      · rw [if_pos c] at h; cases h; exact ⟨⟨s, e1, c⟩, e2⟩
      · rw [if_neg c] at h; cases h
    · cases h
  · rintro ⟨⟨s, e1, c⟩, e2⟩
    rw [e1, e2]
    exact if_pos c
/-- the borrowed, the others' -/
def bsA (S : MS) (σ : L2.St) (is : List Nat) : List Addr := is.filterMap (ownA S σ)
def osA (S : MS) (σ : L2.St) (is : List Nat) (ρ : List Addr) : List Addr := (((List.range S.env.length).filter fun i => !decide (i ∈ is)).filterMap (ownA S σ)) ++ ρ
theorem mem_bs {S : MS} {σ : L2.St} {is : List Nat} {a : Addr} : a ∈ bsA S σ is ↔ ∃ i ∈ is, Owns S σ i a := by
  unfold bsA
  rw [List.mem_filterMap]
  exact ⟨fun ⟨i, h, e⟩ => ⟨i, h, ownA_iff.mp e⟩, fun ⟨i, h, e⟩ => ⟨i, h, ownA_iff.mpr e⟩⟩
theorem mem_os {S : MS} {σ : L2.St} {is : List Nat} {ρ : List Addr} {a : Addr} : a ∈ osA S σ is ρ ↔ (∃ i, i ∉ is ∧ Owns S σ i a) ∨ a ∈ ρ := by
  unfold osA
  rw [List.mem_append, List.mem_filterMap]
  constructor
  · rintro (⟨i, h, e⟩ | h)
    · rw [List.mem_filter] at h
      exact .inl ⟨i, by simpa using h.2, ownA_iff.mp e⟩
    · exact .inr h
  · rintro (⟨i, h, e⟩ | h)
    · refine .inl ⟨i, ?_, ownA_iff.mpr e⟩
      rw [List.mem_filter]
      refine ⟨?_, by simpa using h⟩
      obtain ⟨⟨s, e1, _⟩, _⟩ := e
      exact List.mem_range.mpr (List.getElem?_eq_some_iff.mp e1).1
    · exact .inr h
def Bd.hide (B : Bd) (S : MS) (σ : L2.St) (H : Hp) (is : List Nat) : Bd := ⟨fun a => if a ∈ bsA S σ is then H a else B.G a, fun a => if a ∈ osA S σ is B.ρ then H a else B.F a, B.ρ, B.L⟩
def Bd.show (B1 B : Bd) (S : MS) (σ : L2.St) (is : List Nat) : Bd := ⟨fun a => if a ∈ bsA S σ is then none else B1.G a, B.F, B.ρ, B.L⟩
section
variable {T : Zu} {S S1 : MS} {σ : L2.St} {H H' : Hp} {B B1 : Bd} {is : List Nat}
theorem Rl.bsG (r : Rl T S σ H B) {a : Addr} (h : a ∈ bsA S σ is) : B.G a = none ∧ B.F a = none ∧ a ∉ B.ρ ∧ ∃ o, H a = some o ∧ tupO o = false := by
  obtain ⟨i, _, ow⟩ := mem_bs.mp h
  obtain ⟨h1, h2, h3⟩ := r.fs i a ow
  obtain ⟨o, ho⟩ := Owns.lv r ow
  exact ⟨h1, h2, h3, o, ho, Owns.ntup r ow ho⟩
theorem Rl.lgH (r : Rl T S σ H B) : B.lg (B.hide S σ H is) := ⟨fun a u h => by
  show (if a ∈ bsA S σ is then H a else B.G a) = some u
  rw [if_neg (fun z => by rw [(r.bsG z).1] at h; cases h)]; exact h, fun _ _ h => h⟩
theorem Rl.hide (r : Rl T S σ H B) : Rl T (S.hide is) σ H (B.hide S σ H is) := by
  have nolive : ∀ {i : Nat} {s : Sl}, (S.hide is).env[i]? = some s → ∃ s0, S.env[i]? = some s0 ∧ s = hideS is s0 i := fun {i s} e => by
    have e : (S.env.mapIdx fun i s => hideS is s i)[i]? = some s := e
    rw [List.getElem?_mapIdx] at e
    obtain ⟨s0, e0, e1⟩ := Option.map_eq_some_iff.mp e
    exact ⟨s0, e0, e1.symm⟩
  have dead : ∀ {s0 : Sl} {i : Nat}, (hideS is s0 i).live = false := fun {s0 i} => by
    unfold hideS
    by_cases c : s0.live = true
    · rw [if_pos c]
      by_cases d : i ∈ is
      · rw [if_pos d]; cases s0 <;> first | rfl | cases c
      · rw [if_neg d]; rfl
    · rw [if_neg c]; cases h : s0.live <;> first | rfl | exact absurd h c
  have no : ∀ {i a}, ¬ Owns (S.hide is) σ i a := fun {i a} ⟨⟨s, e, l⟩, _⟩ => by
    obtain ⟨s0, _, rfl⟩ := nolive e
    rw [dead] at l; cases l
  have Gin : ∀ {a}, a ∈ bsA S σ is → (B.hide S σ H is).G a = H a := fun h => if_pos h
  have Gout : ∀ {a}, a ∉ bsA S σ is → (B.hide S σ H is).G a = B.G a := fun h => if_neg h
  refine ⟨?_, fun a o e => ?_, fun a e => ?_, fun a o e => ?_, fun j s e => ?_, ?_, fun n c a e1 e2 => ?_, fun i a h => absurd h no, fun n c a e1 e2 => ?_, fun i j a h => absurd h no, r.dc⟩
  · show σ.length = (S.env.mapIdx fun i s => hideS is s i).length
    rw [List.length_mapIdx]; exact r.ln
  · by_cases c : a ∈ bsA S σ is
    · rw [Gin c] at e
      exact .inl ⟨r.lno (r.bsG c).1, e⟩
    · rw [Gout c] at e
      exact r.g a o e
  · obtain ⟨o, q⟩ := r.lk a e
    exact ⟨o, r.lgH.g a o q⟩
  · have e : (if a ∈ osA S σ is B.ρ then H a else B.F a) = some o := e
    by_cases c : a ∈ osA S σ is B.ρ
    · rw [if_pos c] at e
      refine ⟨e, .inl ?_⟩
      rcases mem_os.mp c with ⟨i, ni, ow⟩ | hr
      · rw [Gout fun z => ?_]
        · exact (r.fs i a ow).1
        · obtain ⟨j, hj, ow2⟩ := mem_bs.mp z
          exact ni (r.ds i j a ow ow2 ▸ hj)
      · rw [Gout fun z => (r.bsG z).2.2.1 hr]
        exact r.cellG hr
    · rw [if_neg c] at e
      obtain ⟨h1, h2⟩ := r.f a o e
      refine ⟨h1, ?_⟩
      rw [Gout fun z => by rw [(r.bsG z).2.1] at e; cases e]
      exact h2
  · obtain ⟨s0, e0, rfl⟩ := nolive e
    have x := r.sl j s0 e0
    by_cases c : s0.live = true
    · unfold hideS
      rw [if_pos c]
      by_cases d : j ∈ is
      · rw [if_pos d]
        have inb : ∀ {a : Addr}, (σ[j]? : Option (Option V)) = some (some (.ref a)) → a ∈ bsA S σ is := fun ea => mem_bs.mpr ⟨j, d, ⟨_, e0, c⟩, ea⟩
        cases s0 with
        | un => cases c
        | va d => cases c
        | xc c' fs => cases c
        | ol ds => obtain ⟨a, xs, ea, k, q⟩ := x; exact ⟨.ref a, ea, .lst ((Gin (inb ea)).trans k) (q.lg r.lgH)⟩
        | od t kvs =>
          obtain ⟨a, ea, ⟨rfl, ks, k, q⟩ | ⟨rfl, ks, k, q⟩⟩ := x
          · exact ⟨.ref a, ea, .dic ((Gin (inb ea)).trans k) (q.lg r.lgH)⟩
          · exact ⟨.ref a, ea, .dit ((Gin (inb ea)).trans k) (q.lg r.lgH)⟩
        | oi c' fs => obtain ⟨a, C, dx, vs, ea, hc, k, q⟩ := x; exact ⟨.ref a, ea, .ins hc ((Gin (inb ea)).trans k) (q.lg r.lgH)⟩
      · rw [if_neg d]; trivial
    · unfold hideS
      rw [if_neg c]
      exact x.lg r.lgH
  · show (S.sto.map fun _ => Cl.un).length = B.ρ.length
    rw [List.length_map]; exact r.cl
  · have e1 : (S.sto.map fun _ => Cl.un)[n]? = some c := e1
    rw [List.getElem?_map] at e1
    obtain ⟨c0, e0, rfl⟩ := Option.map_eq_some_iff.mp e1
    have x := r.ce n c0 a e0 e2
    cases c0 with
    | un => exact x
    | l ds => obtain ⟨xs, k, _⟩ := x; exact ⟨_, k, rfl⟩
    | i c fs => obtain ⟨C, dx, vs, _, k, _⟩ := x; exact ⟨_, k, rfl⟩
  · have e1 : (S.sto.map fun _ => Cl.un)[n]? = some c := e1
    rw [List.getElem?_map] at e1
    obtain ⟨c0, e0, rfl⟩ := Option.map_eq_some_iff.mp e1
    have hr : a ∈ B.ρ := List.mem_of_getElem? e2
    refine ⟨?_, fun v => by cases v⟩
    rw [Gout fun z => (r.bsG z).2.2.1 hr]
    exact r.cellG hr
theorem Rl.show (r : Rl T S σ H B) (r1 : Rl T S1 σ H' B1) (l : (B.hide S σ H is).le B1) : Rl T S σ H' (B1.show B S σ is) ∧ B.le (B1.show B S σ is) ∧ ∀ a xs, B1.G a = some (.tup xs) → (B1.show B S σ is).G a = some (.tup xs) := by
  have Gin : ∀ {a}, a ∈ bsA S σ is → (B1.show B S σ is).G a = none := fun h => if_pos h
  have Gout : ∀ {a}, a ∉ bsA S σ is → (B1.show B S σ is).G a = B1.G a := fun h => if_neg h
  have le : B.le (B1.show B S σ is) := ⟨fun a u h => by
    rw [Gout fun z => by rw [(r.bsG z).1] at h; cases h]
    exact l.g a u (r.lgH.g a u h), rfl, rfl, fun _ _ h => h, fun _ h => .inl h⟩
  have hos : ∀ {a o}, a ∈ osA S σ is B.ρ → H a = some o → B1.F a = some o := fun {a o} h e => by rw [l.f]; exact (if_pos h).trans e
  have keep : ∀ {i a o}, Owns S σ i a → H a = some o → H' a = some o ∧ (B1.show B S σ is).G a = none := fun {i a o} ow e => by
    by_cases c : i ∈ is
    · have hb : a ∈ bsA S σ is := mem_bs.mpr ⟨i, c, ow⟩
      refine ⟨?_, Gin hb⟩
      have g1 := l.g a o ((if_pos hb).trans e)
      rcases r1.g a o g1 with ⟨_, q⟩ | ⟨q, _⟩
      · exact q
      · rw [l.l] at q
        have q : B.L a = true := q
        rw [r.lno (r.bsG hb).1] at q; cases q
    · have hb : a ∈ osA S σ is B.ρ := mem_os.mpr (.inl ⟨i, c, ow⟩)
      obtain ⟨k1, k2⟩ := r1.f a o (hos hb e)
      refine ⟨k1, ?_⟩
      rw [Gout fun z => ?_]
      · rcases k2 with k2 | k2
        · exact k2
        · rw [Owns.ntup r ow e] at k2; cases k2
      · obtain ⟨j, hj, ow2⟩ := mem_bs.mp z
        exact c (r.ds i j a ow ow2 ▸ hj)
  have keepC : ∀ {a o}, a ∈ B.ρ → H a = some o → H' a = some o ∧ (B1.show B S σ is).G a = none := fun {a o} h e => by
    obtain ⟨k1, k2⟩ := r1.f a o (hos (mem_os.mpr (.inr h)) e)
    refine ⟨k1, ?_⟩
    rw [Gout fun z => (r.bsG z).2.2.1 h]
    rcases k2 with k2 | k2
    · exact k2
    · obtain ⟨_, _, u, _, _, k, q⟩ := r.cellT h
      rw [e] at k; cases k; rw [q] at k2; cases k2
  refine ⟨⟨r.ln, fun a o e => ?_, fun a e => ?_, fun a o e => ?_, fun j s e => ?_, r.cl, fun n c a e1 e2 => ?_, fun i a h => ?_, fun n c a e1 e2 => ?_, r.ds, r.dc⟩, le, fun a xs e => ?_⟩
  · by_cases c : a ∈ bsA S σ is
    · rw [Gin c] at e; cases e
    · rw [Gout c] at e
      have := r1.g a o e
      rw [l.l] at this
      exact this
  · obtain ⟨o, q⟩ := r.lk a e
    exact ⟨o, le.g a o q⟩
  · have e : B.F a = some o := e
    have hF : B1.F a = some o := by
      by_cases c : a ∈ osA S σ is B.ρ
      · exact hos c (r.f a o e).1
      · rw [l.f]; exact (if_neg c).trans e
    obtain ⟨k1, k2⟩ := r1.f a o hF
    refine ⟨k1, ?_⟩
    by_cases c : a ∈ bsA S σ is
    · exact .inl (Gin c)
    · rw [Gout c]; exact k2
  · exact ((r.sl j s e).lg le.lg).heap fun a u lv eo hu => (keep (i := j) ⟨⟨s, e, lv⟩, eo⟩ hu).1
  · exact ((r.ce n c a e1 e2).lg le.lg).heap fun u k => (keepC (List.mem_of_getElem? e2) k).1
  · obtain ⟨h1, h2, h3⟩ := r.fs i a h
    obtain ⟨o, ho⟩ := Owns.lv r h
    exact ⟨(keep h ho).2, h2, h3⟩
  · have hr : a ∈ B.ρ := List.mem_of_getElem? e2
    obtain ⟨o, ho⟩ := r.cellv hr
    exact ⟨(keepC hr ho).2, (r.fc n c a e1 e2).2⟩
  · rw [Gout fun z => ?_]
    · exact e
    · obtain ⟨_, _, _, o, ho, nt⟩ := r.bsG z
      have := l.g a o ((if_pos z).trans ho)
      rw [e] at this; cases this; cases nt
end
mutual
theorem flat_rep {T : Cfg} {B B' : Bd} (h : ∀ a xs, B.G a = some (.tup xs) → B'.G a = some (.tup xs)) : ∀ {d : D} {v : V}, d.flat = true → Rep T B d v → Rep T B' d v
  | _, _, _, .non => .non
  | _, _, _, .bl b => .bl b
  | _, _, _, .int i => .int i
  | _, _, _, .str s => .str s
  | _, _, e, .lst _ _ => by cases e
  | _, _, e, .scr _ => by cases e
  | .tup ds, _, e, .tup q r => .tup (h _ _ q) (flats_rep h (show D.flats ds = true from e) r)
  | _, _, e, .dic _ _ => by cases e
  | _, _, e, .dit _ _ => by cases e
  | _, _, e, .ins _ _ _ => by cases e
  | _, _, e, .cel _ => by cases e
theorem flats_rep {T : Cfg} {B B' : Bd} (h : ∀ a xs, B.G a = some (.tup xs) → B'.G a = some (.tup xs)) : ∀ {ds : List D} {vs : List V}, D.flats ds = true → RepL T B ds vs → RepL T B' ds vs
  | _, _, _, .nil => .nil
  | d :: ds, _, e, .cons a b => by
    have e : (d.flat && D.flats ds) = true := e
    rw [Bool.and_eq_true] at e
    exact .cons (flat_rep h e.1 a) (flats_rep h e.2 b)
end

/-! ### the forms -/
def eBor (is : List Nat) (e : Exp) : Exp := fun S => match e (S.hide is) with
  | .ok d _ => if d.flat = true then .ok d S else .st
  | _ => .st
def tBor (is : List Nat) (t : Tst) : Tst := fun S => match t (S.hide is) with
  | .ok b _ => .ok b S
  | _ => .st
def fBor (is : List Nat) (f : Frs) : Frs := fun S => match f (S.hide is) with
  | .ok (.ol ds) _ => if D.flats ds = true then .ok (.ol ds) S else .st
  | _ => .st
section
variable {X : Cx} {T : Su} {e : Expr} {is : List Nat} {ee : Exp} {t : Tst} {f : Frs}
theorem r_bor (h : PE X e (TEm T ee)) : PE X e (TEm T (eBor is ee)) := peI h fun σ H Q ⟨S, B, rl, h⟩ => by
  refine ⟨_, _, rl.hide (is := is), ?_⟩
  unfold eBor at h
  cases e1 : ee (S.hide is) with
  | st => rw [e1] at h; exact h.elim
  | ex _ _ _ => rw [e1] at h; exact h.elim
  | ok d S1 =>
    rw [e1] at h
    have h' : PostR T σ B (RelD T) Q (if d.flat = true then .ok d S else .st) := h
    by_cases c : d.flat = true
    · rw [if_pos c] at h'
      intro v H' B1 r1 l1 q1
      obtain ⟨r2, l2, tp⟩ := rl.show r1 l1
      exact h' v H' _ r2 l2 (flat_rep tp c q1)
    · rw [if_neg c] at h'; exact h'.elim
theorem q_bor (h : PT X e (TTm T t)) : PT X e (TTm T (tBor is t)) := ptI h fun σ H Q ⟨S, B, rl, h⟩ => by
  refine ⟨_, _, rl.hide (is := is), ?_⟩
  unfold tBor at h
  cases e1 : t (S.hide is) with
  | st => rw [e1] at h; exact h.elim
  | ex _ _ _ => rw [e1] at h; exact h.elim
  | ok d S1 =>
    rw [e1] at h
    intro v H' B1 r1 l1 q1
    obtain ⟨r2, l2, tp⟩ := rl.show r1 l1
    exact h v H' _ r2 l2 q1
theorem f_bor (h : PE X e (TFm T f)) : PE X e (TFm T (fBor is f)) := peI h fun σ H Q ⟨S, B, rl, h⟩ => by
  refine ⟨_, _, rl.hide (is := is), ?_⟩
  unfold fBor at h
  cases e1 : f (S.hide is) with
  | st => rw [e1] at h; exact h.elim
  | ex _ _ _ => rw [e1] at h; exact h.elim
  | ok s S1 =>
    rw [e1] at h
    cases s with
    | un => exact h.elim
    | va _ => exact h.elim
    | od _ _ => exact h.elim
    | oi _ _ => exact h.elim
    | xc _ _ => exact h.elim
    | ol ds =>
      have h' : PostF T σ B Q (if D.flats ds = true then .ok (.ol ds) S else .st) := h
      by_cases c : D.flats ds = true
      · rw [if_pos c] at h'
        intro p o H' B1 hp r1 l1 lv q1
        obtain ⟨r2, l2, tp⟩ := rl.show r1 l1
        obtain ⟨a, xs, ea, k, q⟩ := q1
        exact h' p o H' _ hp r2 l2 rfl ⟨a, xs, ea, k, flats_rep tp c q⟩
      · rw [if_neg c] at h'; exact h'.elim
end
end Mir
/-! Mir11: what may be changed: a slot's own object, a cell. -/
namespace Mir
open PySem PySem.Spec PyProof.Rows L2

inductive Mo where
  | own (i : Nat) | cel (n : Nat)
abbrev Rf := MS → R Mo
def Cl.sl : Cl → Option Sl
  | .un => none
  | .l ds => some (.ol ds)
  | .i c fs => some (.oi c fs)
def Sl.cl : Sl → Option Cl
  | .ol ds => some (.l ds)
  | .oi c fs => some (.i c fs)
  | _ => none
def getM (S : MS) : Mo → Option Sl
  | .own i => match S.env[i]? with
    | some s => if s.live = true then some s else none
    | none => none
  | .cel n => match S.sto[n]? with
    | some c => c.sl
    | none => none
def setM (S : MS) (m : Mo) (s : Sl) : Option MS := match m with
  | .own i => some (S.put i s)
  | .cel n => match s.cl with
    | some c => some ⟨S.env, S.sto.set n c⟩
    | none => none
/-- where it stands -/
def AtM (σ : L2.St) (B : Bd) (a : Addr) : Mo → Prop
  | .own i => (σ[i]? : Option (Option V)) = some (some (.ref a))
  | .cel n => B.ρ[n]? = some a
theorem AtM.le {σ : L2.St} {B B' : Bd} {a : Addr} {m : Mo} (h : AtM σ B a m) (l : B.lg B') : AtM σ B' a m := by
  cases m with
  | own i => exact h
  | cel n => exact l.r n a h
section
variable {T : Zu} {S : MS} {σ : L2.St} {H : Hp} {B : Bd}
theorem Rl.getM (r : Rl T S σ H B) {m : Mo} {a : Addr} {s : Sl} (h : AtM σ B a m) (e : getM S m = some s) : SlOk T B H s (some (some (.ref a))) ∧ s.live = true := by
  cases m with
  | own i =>
    replace e : (match S.env[i]? with | some s => if s.live = true then some s else none | none => none) = some s := e
    cases es : S.env[i]? with
    | none => rw [es] at e; cases e
    | some s0 =>
      rw [es] at e
      replace e : (if s0.live = true then some s0 else none) = some s := e
      by_cases c : s0.live = true
      · rw [if_pos c] at e; cases e
        have x := r.sl i s es
        rw [show (σ[i]? : Option (Option V)) = some (some (.ref a)) from h] at x
        exact ⟨x, c⟩
      · rw [if_neg c] at e; cases e
  | cel n =>
    replace e : (match S.sto[n]? with | some c => c.sl | none => none) = some s := e
    cases es : S.sto[n]? with
    | none => rw [es] at e; cases e
    | some c0 =>
      rw [es] at e
      have x := r.ce n c0 a es h
      cases c0 with
      | un => cases e
      | l ds => cases e; obtain ⟨xs, k, q⟩ := x; exact ⟨⟨a, xs, rfl, k, q⟩, rfl⟩
      | i c fs => cases e; obtain ⟨C, dx, vs, hc, k, q⟩ := x; exact ⟨⟨a, C, dx, vs, rfl, hc, k, q⟩, rfl⟩
/-- a cell changes -/
theorem Rl.mutC (r : Rl T S σ H B) {n : Nat} {c c' : Cl} {a : Addr} {o : HO} (hs : S.sto[n]? = some c) (hv : c.vis = true) (ha : B.ρ[n]? = some a) (q : CeOk T.toCfg B (upd H a o) c' a) : Rl T ⟨S.env, S.sto.set n c'⟩ σ (upd H a o) B := by
  have hr : a ∈ B.ρ := List.mem_of_getElem? ha
  obtain ⟨ga, fa⟩ := r.fc n c a hs ha
  have fa := fa hv
  have up : ∀ {b u}, b ≠ a → H b = some u → upd H a o b = some u := fun z e => by rw [upd_ne z]; exact e
  have inj : ∀ {m : Nat}, B.ρ[m]? = some a → m = n := fun {m} e => by
    have hm := (List.getElem?_eq_some_iff.mp e).1
    exact (List.getElem?_inj hm r.dc).mp (e.trans ha.symm)
  have hn := (List.getElem?_eq_some_iff.mp hs).1
  refine ⟨r.ln, fun b u e => (r.g b u e).mono fun _ => up (fun z => by rw [z, ga] at e; cases e), r.lk, fun b u e => ⟨up (fun z => by rw [z, fa] at e; cases e) (r.f b u e).1, (r.f b u e).2⟩,
    fun j s e => (r.sl j s e).heap fun b u l eb k => up (fun z => by subst z; exact (r.fs j b ⟨⟨s, e, l⟩, eb⟩).2.2 hr) k, ?_, fun m c2 b e1 e2 => ?_, r.fs, fun m c2 b e1 e2 => ?_, r.ds, r.dc⟩
  · show (S.sto.set n c').length = _
    rw [List.length_set]; exact r.cl
  · have e1 : (S.sto.set n c')[m]? = some c2 := e1
    by_cases z : n = m
    · subst z
      rw [List.getElem?_set_self hn] at e1
      cases e1
      rw [ha] at e2; cases e2
      exact q
    · rw [List.getElem?_set_ne z] at e1
      exact (r.ce m c2 b e1 e2).heap fun u k => up (fun w => by subst w; exact z (inj e2).symm) k
  · have e1 : (S.sto.set n c')[m]? = some c2 := e1
    by_cases z : n = m
    · subst z
      rw [ha] at e2; cases e2
      exact ⟨ga, fun _ => fa⟩
    · rw [List.getElem?_set_ne z] at e1
      exact r.fc m c2 b e1 e2
theorem Rl.setM (r : Rl T S σ H B) {m : Mo} {a : Addr} {s s' : Sl} {S' : MS} {o : HO} (h : AtM σ B a m) (e : Mir.getM S m = some s) (es : Mir.setM S m s' = some S') (q : SlOk T B (upd H a o) s' (some (some (.ref a)))) : Rl T S' σ (upd H a o) B := by
  cases m with
  | own i =>
    replace e : (match S.env[i]? with | some s => if s.live = true then some s else none | none => none) = some s := e
    cases e0 : S.env[i]? with
    | none => rw [e0] at e; cases e
    | some s0 =>
      rw [e0] at e
      replace e : (if s0.live = true then some s0 else none) = some s := e
      by_cases c : s0.live = true
      · cases es
        exact r.mut e0 c h q
      · rw [if_neg c] at e; cases e
  | cel n =>
    replace e : (match S.sto[n]? with | some c => c.sl | none => none) = some s := e
    replace es : (match s'.cl with | some c => some (⟨S.env, S.sto.set n c⟩ : MS) | none => none) = some S' := es
    cases e0 : S.sto[n]? with
    | none => rw [e0] at e; cases e
    | some c0 =>
      rw [e0] at e
      have hv : c0.vis = true := by cases c0 <;> first | rfl | cases e
      cases s' with
      | ol ds =>
        cases es
        obtain ⟨a', xs, ea, k, q⟩ := q
        cases ea
        exact r.mutC e0 hv h ⟨xs, k, q⟩
      | oi c fs =>
        cases es
        obtain ⟨a', C, dx, vs, ea, hc, k, q⟩ := q
        cases ea
        exact r.mutC e0 hv h ⟨C, dx, vs, hc, k, q⟩
      | _ => cases es
/-- a new cell -/
theorem Rl.newC (r : Rl T S σ H B) {p : Addr} {c : Cl} {o : HO} (hp : H p = none) (q : CeOk T.toCfg B (upd H p o) c p) : Rl T ⟨S.env, S.sto ++ [c]⟩ σ (upd H p o) { B with ρ := B.ρ ++ [p] } ∧ B.le { B with ρ := B.ρ ++ [p] } := by
  have r0 := r.beside hp o
  have fp : B.F p = none := by
    cases e : B.F p with
    | none => rfl
    | some u => rw [(r.f p u e).1] at hp; cases hp
  have rp : p ∉ B.ρ := fun z => by obtain ⟨u, k⟩ := r.cellv z; rw [hp] at k; cases k
  have lg : B.lg { B with ρ := B.ρ ++ [p] } := ⟨fun _ _ h => h, fun n a h => by
    show (B.ρ ++ [p])[n]? = some a
    rw [List.getElem?_append_left (List.getElem?_eq_some_iff.mp h).1]; exact h⟩
  have pn : ∀ {i a}, Owns S σ i a → a ≠ p := fun h z => by obtain ⟨u, k⟩ := Owns.lv r h; rw [z, hp] at k; cases k
  have ix : ∀ {n : Nat} {c2 : Cl} {a : Addr}, (S.sto ++ [c])[n]? = some c2 → (B.ρ ++ [p])[n]? = some a → (S.sto[n]? = some c2 ∧ B.ρ[n]? = some a) ∨ (c2 = c ∧ a = p) := fun {n c2 a} e1 e2 => by
    by_cases hn : n < S.sto.length
    · rw [List.getElem?_append_left hn] at e1
      rw [List.getElem?_append_left (by rw [← r.cl]; exact hn)] at e2
      exact .inl ⟨e1, e2⟩
    · right
      rw [List.getElem?_append_right (by omega)] at e1
      rw [List.getElem?_append_right (by rw [← r.cl]; omega)] at e2
      have h0 : n - S.sto.length = 0 := by
        have := (List.getElem?_eq_some_iff.mp e1).1
        simp at this; omega
      rw [h0] at e1
      rw [← r.cl, h0] at e2
      simp at e1 e2
      exact ⟨e1.symm, e2.symm⟩
  refine ⟨⟨r.ln, r0.g, r0.lk, r0.f, fun i s e => (r0.sl i s e).lg lg, ?_, fun n c2 a e1 e2 => ?_, fun i a h => ?_, fun n c2 a e1 e2 => ?_, r.ds, ?_⟩, lg.g, rfl, rfl, lg.r, fun a h => ?_⟩
  · show (S.sto ++ [c]).length = (B.ρ ++ [p]).length
    rw [List.length_append, List.length_append, r.cl]; rfl
  · rcases ix e1 e2 with ⟨h1, h2⟩ | ⟨rfl, rfl⟩
    · exact (r0.ce n c2 a h1 h2).lg lg
    · exact q.lg lg
  · obtain ⟨h1, h2, h3⟩ := r.fs i a h
    refine ⟨h1, h2, fun z => ?_⟩
    have z : a ∈ B.ρ ++ [p] := z
    rcases List.mem_append.mp z with z | z
    · exact h3 z
    · exact pn h (by simpa using z)
  · rcases ix e1 e2 with ⟨h1, h2⟩ | ⟨_, rfl⟩
    · exact r.fc n c2 a h1 h2
    · exact ⟨r.gnone hp, fun _ => fp⟩
  · show (B.ρ ++ [p]).Nodup
    rw [List.nodup_append]
    exact ⟨r.dc, by simp, fun a ha b hb z => by simp at hb; subst hb; exact rp (z ▸ ha)⟩
  · have h : a ∈ B.ρ ++ [p] := h
    rcases List.mem_append.mp h with h | h
    · exact .inl h
    · rw [show a = p by simpa using h]; exact .inr fp
end

/-! ### references -/
abbrev RelM (σ : L2.St) : Bd → Mo → V → Prop := fun B m v => ∃ a, v = .ref a ∧ AtM σ B a m
def TRm (T : Su) (r : Rf) : TE := fun σ H Q => ∃ S B, Rl T.toZu S σ H B ∧ PostR T σ B (RelM σ) Q (r S)
/-- a name: its own object, or the cell that it holds -/
def rfN (i : Nat) : Rf := fun S => match S.env[i]? with
  | some (.ol _) => .ok (.own i) S
  | some (.od _ _) => .ok (.own i) S
  | some (.oi _ _) => .ok (.own i) S
  | some (.va (.cel n)) => .ok (.cel n) S
  | _ => .st
def rfE (e : Exp) : Rf := fun S => (e S).bind fun d S1 => match d with
  | .cel n => .ok (.cel n) S1
  | _ => .st
section
variable {X : Cx} {T : Su} {pos : Pos} {e : Expr} {ee : Exp}
theorem rf_name (i : Nat) {x : Str} (hN : X.N[i]? = some x := by rfl) (hv : Vis X.env.scope x := by first | exact Or.inl rfl | exact Or.inr (Or.inl rfl) | exact Or.inr (Or.inr rfl)) (hd : (x == ("__debug__" : Str)) = false := by decide)
    (hcd : (x == ("__classdict__" : Str)) = false := by decide) : PE X (.Name x pos) (TRm T (rfN i)) := peI (pe_var hN hv hd hcd) fun σ H Q ⟨S, B, r, h⟩ => by
  unfold rfN at h
  cases e : S.env[i]? with
  | none => rw [e] at h; exact h.elim
  | some s =>
    rw [e] at h
    have x := r.sl i s e
    cases s with
    | un => exact h.elim
    | xc c fs => exact h.elim
    | va d =>
      cases d <;> first | exact h.elim | skip
      rename_i n
      obtain ⟨v, ev, q⟩ := x
      cases q with
      | cel hn => exact ⟨_, ev, h _ H B r .rfl' ⟨_, rfl, hn⟩⟩
    | ol ds => obtain ⟨a, xs, ev, k, q⟩ := x; exact ⟨_, ev, h _ H B r .rfl' ⟨a, rfl, ev⟩⟩
    | od t kvs => obtain ⟨a, ev, q⟩ := x; exact ⟨_, ev, h _ H B r .rfl' ⟨a, rfl, ev⟩⟩
    | oi c fs => obtain ⟨a, C, dx, vs, ev, hc, k, q⟩ := x; exact ⟨_, ev, h _ H B r .rfl' ⟨a, rfl, ev⟩⟩
theorem rf_e (he : PE X e (TEm T ee)) : PE X e (TRm T (rfE ee)) := peI he fun σ H Q ⟨S, B, rl, h⟩ => by
  refine ⟨S, B, rl, PostR.bind h fun d S1 v H1 B1 r1 l1 q1 h1 => ?_⟩
  cases q1 <;> first | exact h1.elim | skip
  rename_i hn
  exact h1 _ H1 B1 r1 .rfl' ⟨_, rfl, hn⟩
end

/-! ### x[i] of what may be changed -/
def ixS : Sl → D → Option D
  | .ol ds, .int i => atI ds i
  | .od t kvs, k => if keyFor t k = true then dlook kvs k else none
  | _, _ => none
def eIxR (a : Rf) (b : Exp) : Exp := fun S => (a S).bind fun m S1 => (b S1).bind fun k S2 => liftO S2 ((getM S2 m).bind fun s => ixS s k)
/-- a look-up in a dict of one's own -/
theorem dgetS {T : Zu} {S : MS} {σ : L2.St} {H : Hp} {B : Bd} {a : Addr} {t : Bool} {kvs : List (D × D)} {k : D} {w : V} (rl : Rl T S σ H B) (q1 : DicAt T.toCfg B H a t kvs) (q2 : Rep T.toCfg B k w) (hk : keyFor t k = true) :
    ∃ o, DGet H a w o ∧ RepO T.toCfg B (dlook kvs k) o := by
  rcases q1 with ⟨rfl, ks, hd, r⟩ | ⟨rfl, ks, hd, r⟩
  · have hk' : k.key.isSome = true := hk
    cases e : k.key with
    | none => rw [e] at hk'; cases hk'
    | some k0 =>
      have e' := key_eq e
      subst e'
      rw [rep_key q2]
      exact ⟨_, .inl ⟨ks, k0, .inl hd, rfl, rfl⟩, r.val k0⟩
  · have hk' : k.keyT.isSome = true := hk
    cases e : k.keyT with
    | none => rw [e] at hk'; cases hk'
    | some k0 =>
      have e' := keyT_eq e
      subst e'
      cases q2 with
      | tup hb rb =>
        rename_i b xs
        have hx := rep_keys rb
        subst hx
        exact ⟨_, .inr ⟨ks, k0, b, .inl hd, rfl, rl.tup hb, rfl⟩, r.val k0⟩
/-- the heap behind a store -/
theorem dputS {T : Zu} {S : MS} {σ : L2.St} {H : Hp} {B : Bd} {a : Addr} {t : Bool} {kvs : List (D × D)} {k d : D} {w v : V} (rl : Rl T S σ H B) (q1 : DicAt T.toCfg B H a t kvs) (q2 : Rep T.toCfg B k w) (q3 : Rep T.toCfg B d v) (hk : keyFor t k = true) (hl : kvs.length < sizeLine) :
    ∃ o, DPut H a w v (upd H a o) ∧ DicAt T.toCfg B (upd H a o) a t (dput kvs k d) := by
  rcases q1 with ⟨rfl, ks, hd, r⟩ | ⟨rfl, ks, hd, r⟩
  · have hk' : k.key.isSome = true := hk
    cases e : k.key with
    | none => rw [e] at hk'; cases hk'
    | some k0 =>
      have e' := key_eq e
      subst e'
      rw [rep_key q2]
      exact ⟨_, .k hd (by rw [← r.length]; exact hl), .inl ⟨rfl, _, upd_same, r.put k0 q3⟩⟩
  · have hk' : k.keyT.isSome = true := hk
    cases e : k.keyT with
    | none => rw [e] at hk'; cases hk'
    | some k0 =>
      have e' := keyT_eq e
      subst e'
      cases q2 with
      | tup hb rb =>
        rename_i b xs
        have hx := rep_keys rb
        subst hx
        exact ⟨_, .t hd (rl.tup hb) (by rw [← r.length]; exact hl), .inr ⟨rfl, _, upd_same, r.put k0 q3⟩⟩
section
variable {X : Cx} {T : Su} {pos : Pos} {a b : Expr} {ra : Rf} {eb : Exp}
theorem r_ixR (hK : T.K = X.K) (hu : X.A.units + 1 < cLine) (ha : PE X a (TRm T ra)) (hb : PE X b (TEm T eb)) (hs : PlainIx b := by exact fun _ _ => rfl) : PE X (.Subscript a b pos) (TEm T (eIxR ra eb)) :=
  peI (pe_ix (hK ▸ ix_M hu) ha hb hs) fun σ H Q ⟨S, B, rl, h⟩ => by
    refine ⟨S, B, rl, PostR.bind h fun m S1 v H1 B1 r1 l1 ⟨a, ev, at1⟩ h1 => ?_⟩
    refine ⟨S1, B1, r1, PostR.bind h1 fun k S2 w H2 B2 r2 l2 q2 h2 => ?_⟩
    subst ev
    obtain ⟨d, e, kk⟩ := liftO_post h2
    cases es : getM S2 m with
    | none => rw [es] at e; cases e
    | some s =>
      rw [es] at e
      replace e : ixS s k = some d := e
      obtain ⟨x, lv⟩ := r2.getM (at1.le l2.lg) es
      cases s with
      | un => cases lv
      | va _ => cases lv
      | xc _ _ => cases lv
      | oi _ _ => cases k <;> cases e
      | ol ds =>
        obtain ⟨a', xs, ea, hx, rx⟩ := x
        cases ea
        cases q2 <;> first | (cases e; done) | skip
        rename_i i
        obtain ⟨z, e2, rz⟩ := atI_rep rx (show atI ds i = some d from e)
        exact .inl (.inl ⟨a, xs, i, z, rfl, rfl, SqL.of hx, e2, kk _ H2 B2 r2 .rfl' rz⟩)
      | od t kvs =>
        obtain ⟨a', ea, qd⟩ := x
        cases ea
        have e' : (if keyFor t k = true then dlook kvs k else none) = some d := by cases k <;> exact e
        by_cases c : keyFor t k = true
        · rw [if_pos c] at e'
          obtain ⟨o, g, ro⟩ := dgetS r2 qd q2 c
          rw [e'] at ro
          cases o with
          | none => exact ro.elim
          | some z => exact .inr ⟨a, z, rfl, g, kk _ H2 B2 r2 .rfl' ro⟩
        · rw [if_neg c] at e'; cases e'
end

/-! ### x[i] = e of what may be changed -/
def setS : Sl → D → D → Option Sl
  | .ol ds, .int i, d => (ixN ds.length i).map fun j => .ol (ds.set j d)
  | .od t kvs, k, d => if keyFor t k = true ∧ kvs.length < sizeLine then some (.od t (dput kvs k d)) else none
  | _, _, _ => none
def gIx (a : Rf) (b : Exp) : D → MS → R Fl := fun d S => (a S).bind fun m S1 => (b S1).bind fun k S2 => match (getM S2 m).bind fun s => setS s k d with
  | some s' => liftG (setM S2 m s')
  | none => .st
def sIx (a : Rf) (b e : Exp) : Stm := fun S => (e S).bind fun d S1 => gIx a b d S1
theorem RepL.setAt {T : Cfg} {B : Bd} : ∀ {ds : List D} {vs : List V} (j : Nat) {d : D} {v : V}, RepL T B ds vs → Rep T B d v → RepL T B (ds.set j d) (vs.set j v)
  | _, _, _, _, _, .nil, _ => .nil
  | _, _, 0, _, _, .cons _ t, q => .cons q t
  | _, _, j + 1, _, _, .cons a t, q => .cons a (RepL.setAt j t q)
def rSetM : TSet := fun o i v H Q => rSetL o i v H Q ∨ rSetD o i v H Q
theorem set_M {X : Cx} (hu : X.A.units + 1 < cLine) : PSet X rSetM := by
  intro pins s σ H o i v ov iv u Q I ro ri rv h
  rcases h with h | h
  · exact set_list pins s σ H o i v ov iv u Q I ro ri rv h
  · exact set_dict hu pins s σ H o i v ov iv u Q I ro ri rv h
theorem PostS.stm {T : Su} {σ : L2.St} {B : Bd} {D : Ends} {r : R Mo} {f : Mo → MS → R Fl} {P : V → Hp → Prop} (h : PostS T B D (r.bind f))
    (k : ∀ m S1 a H1 B1, Rl T.toZu S1 σ H1 B1 → B.le B1 → AtM σ B1 a m → PostS T B1 D (f m S1) → P (.ref a) H1) : PostR T σ B (RelM σ) P r := PostS.bind h fun m S1 v H1 B1 r1 l1 ⟨a, ev, at1⟩ h1 => by
  subst ev; exact k m S1 a H1 B1 r1 l1 at1 h1
/-- the store itself -/
theorem setM_of {T : Su} {S : MS} {σ : L2.St} {H : Hp} {B : Bd} {D : Ends} {m : Mo} {a : Addr} {k d : Mir.D} {w v : V} (r : Rl T.toZu S σ H B) (at1 : AtM σ B a m) (q2 : Rep T.toCfg B k w) (q3 : Rep T.toCfg B d v)
    (h : PostS T B D (match (getM S m).bind fun s => setS s k d with | some s' => liftG (setM S m s') | none => .st)) : rSetM (.ref a) w v H fun H' => D.nx σ H' := by
  cases es : getM S m with
  | none => rw [es] at h; exact h.elim
  | some s =>
    rw [es] at h
    obtain ⟨x, lv⟩ := r.getM at1 es
    replace h : PostS T B D (match setS s k d with | some s' => liftG (setM S m s') | none => .st) := h
    cases e : setS s k d with
    | none => rw [e] at h; exact h.elim
    | some s' =>
      rw [e] at h
      replace h : PostS T B D (liftG (setM S m s')) := h
      cases em : setM S m s' with
      | none => rw [em] at h; exact h.elim
      | some S' =>
        rw [em] at h
        replace h : ∀ σ' H' B', Rl T.toZu S' σ' H' B' → B.le B' → D.nx σ' H' := h
        cases s with
        | un => cases lv
        | va _ => cases lv
        | xc _ _ => cases lv
        | oi _ _ => cases k <;> cases e
        | ol ds =>
          obtain ⟨a', xs, ea, hx, rx⟩ := x
          cases ea
          cases q2 <;> first | (cases e; done) | skip
          rename_i i
          obtain ⟨j, ej, e2⟩ := Option.map_eq_some_iff.mp (show (ixN ds.length i).map (fun j => Sl.ol (ds.set j d)) = some s' from e)
          subst e2
          exact .inl ⟨a, xs, i, j, rfl, rfl, hx, by rw [← rx.length]; exact ej, h _ _ B (r.setM at1 es em ⟨a, _, rfl, upd_same, rx.setAt j q3⟩) .rfl'⟩
        | od t kvs =>
          obtain ⟨a', ea, qd⟩ := x
          cases ea
          have e' : (if keyFor t k = true ∧ kvs.length < sizeLine then some (Sl.od t (dput kvs k d)) else none) = some s' := by cases k <;> exact e
          by_cases c : keyFor t k = true ∧ kvs.length < sizeLine
          · rw [if_pos c] at e'
            cases e'
            obtain ⟨o, g, qn⟩ := dputS r qd q2 q3 c.1 c.2
            exact .inr ⟨a, _, rfl, g, h _ _ B (r.setM at1 es em ⟨a, rfl, qn⟩) .rfl'⟩
          · rw [if_neg c] at e'; cases e'
section
variable {X : Cx} {T : Su} {pos pos' : Pos} {a b e : Expr} {ra : Rf} {eb ee : Exp}
theorem y_ix (hu : X.A.units + 1 < cLine) (ha : PE X a (TRm T ra)) (hb : PE X b (TEm T eb)) (he : PE X e (TEm T ee))
    (hA : ∀ v, assign (.Subscript a b pos') X.env v = (do
      let ov ← holding [v] (eval a X.env)
      let iv ← holding [v, ov] (eval b X.env)
      standAt pos'
      holding [v, ov, iv] (setItem ov iv v)
      release [v, ov, iv] []) := by intro _; rfl)
    (hs : swapsWithSole [.Subscript a b pos'] e pos.line X.env = pure false := by rfl) (hw : swappedStores [.Subscript a b pos'] e X.env = pure none := by rfl) (h1 : (assignEach [.Subscript a b pos'] X.env).map (·.2) = [assign (.Subscript a b pos') X.env] := by rfl) :
    PS X (.Assign [.Subscript a b pos'] e pos) (TSm T (sIx ra eb ee)) := psI (ps_asg he (pg_sub ha hb (set_M hu) hA) hs hw h1) fun D σ H ⟨S, B, rl, h⟩ => by
  refine ⟨S, B, rl, PostS.bind h fun d S1 v H1 B1 r1 l1 q1 h1 => ?_⟩
  refine ⟨S1, B1, r1, PostS.stm h1 fun m S2 a H2 B2 r2 l2 at2 h2 => ?_⟩
  refine ⟨S2, B2, r2, PostS.bind h2 fun k S3 w H3 B3 r3 l3 q3 h3 => ?_⟩
  exact setM_of r3 (at2.le l3.lg) q3 ((q1.le l2).le l3) h3
end

/-! ### methods that change a list -/
/-- a method's rule and its mirror -/
def MuL (T : Cfg) (r : V → List V → Hp → VK → Prop) (f : List D → List D → Option (D × List D)) : Prop := ∀ {B : Bd} {H : Hp} {a : Addr} {xs : List V} {ds as : List D} {vs : List V} {res : D} {ds' : List D} {Q : VK},
  H a = some (.lst xs) → RepL T B ds xs → RepL T B as vs → f ds as = some (res, ds') → (∀ w xs', Rep T B res w → RepL T B ds' xs' → Q w (upd H a (.lst xs'))) → r (.ref a) vs H Q
def eMu (a : Rf) (as : Exps) (f : List D → List D → Option (D × List D)) : Exp := fun S => (a S).bind fun m S1 => match getM S1 m with
  | some (.ol _) => (as S1).bind fun ds S2 => match getM S2 m with
    | some (.ol xs) => match f xs ds with
      | some (res, xs') => match setM S2 m (.ol xs') with
        | some S3 => .ok res S3
        | none => .st
      | none => .st
    | _ => .st
  | _ => .st
theorem mu_of {T : Su} {ra : Rf} {as : Exps} {f : List D → List D → Option (D × List D)} {r : V → List V → Hp → VK → Prop} (hm : MuL T.toCfg r f) {σ : L2.St} {H : Hp} {Q : VK} (h : TEm T (eMu ra as f) σ H Q) :
    TRm T ra σ H fun x H1 => tyV T.K "list" x H1 ∧ TAm T as σ H1 fun xs H2 => r x xs H2 Q := by
  obtain ⟨S, B, rl, h⟩ := h
  refine ⟨S, B, rl, PostR.bind h fun m S1 v H1 B1 r1 l1 ⟨a, ev, at1⟩ h1 => ?_⟩
  subst ev
  cases e1 : getM S1 m with
  | none => rw [e1] at h1; exact h1.elim
  | some s1 =>
    rw [e1] at h1
    cases s1 <;> first | exact h1.elim | skip
    obtain ⟨⟨a', xs1, ea, hx1, _⟩, _⟩ := r1.getM at1 e1
    cases ea
    refine ⟨.inl ⟨rfl, xs1, SqL.of hx1⟩, S1, B1, r1, PostR.bind h1 fun ds S2 vs H2 B2 r2 l2 q2 h2 => ?_⟩
    cases e2 : getM S2 m with
    | none => rw [e2] at h2; exact h2.elim
    | some s2 =>
      rw [e2] at h2
      cases s2 <;> first | exact h2.elim | skip
      rename_i xs
      obtain ⟨⟨a', xs2, ea, hx2, rx2⟩, _⟩ := r2.getM (at1.le l2.lg) e2
      cases ea
      replace h2 : PostR T σ B2 (RelD T) Q (match f xs ds with | some (res, xs') => (match setM S2 m (.ol xs') with | some S3 => .ok res S3 | none => .st) | none => .st) := h2
      cases ef : f xs ds with
      | none => rw [ef] at h2; exact h2.elim
      | some p =>
        obtain ⟨res, xs'⟩ := p
        rw [ef] at h2
        replace h2 : PostR T σ B2 (RelD T) Q (match setM S2 m (.ol xs') with | some S3 => .ok res S3 | none => .st) := h2
        cases em : setM S2 m (.ol xs') with
        | none => rw [em] at h2; exact h2.elim
        | some S3 =>
          rw [em] at h2
          replace h2 : PostR T σ B2 (RelD T) Q (.ok res S3) := h2
          exact hm hx2 rx2 q2 ef fun w ys qw qy => h2 w _ B2 (r2.setM (at1.le l2.lg) e2 em ⟨a, ys, rfl, upd_same, qy⟩) .rfl' qw
section
variable {X : Cx} {T : Su} {o e : Expr} {es : List Expr} {ra : Rf} {as : Exps} {f : List D → List D → Option (D × List D)} {r : V → List V → Hp → VK → Prop} {name : Str} {apos cpos : Pos} {id : String}
theorem r_mu (hK : T.K = X.K) (slot : Slot "list" name id) (hty : typeOf (.builtin id) = pure (.type "method_descriptor")) (hr : MtR X id r) (hm : MuL T.toCfg r f) (ho : PE X o (TRm T ra)) (ha : PA X (e :: es) (TAm T as))
    (hbase : attributeBase o name X.env (eval o X.env) = eval o X.env := by rfl)
    (hfew : ((backTo cpos (starEach (e :: es) X.env)).all (fun x => !x.1) && (backToKw cpos (keywordEach [] X.env)).all (fun x => x.1.isSome)
      && decide ((e :: es).length + ([] : List Keyword).length + (if ([] : List Keyword).isEmpty then 0 else 1) < 30)) = true := by rfl)
    (hline : (apos.endLine == cpos.line) = true := by rfl) (hs : starEach (e :: es) X.env = (false, eval e X.env) :: starEach es X.env := by rfl) (hplain : (backTo cpos (starEach es X.env)).any (·.1) = false := by rfl) :
    PE X (.Call (.Attribute o name apos) (e :: es) [] cpos) (TEm T (eMu ra as f)) := peI (pe_bm PySem.F.plainAttrs_list slot hty hr ho ha hbase hfew hline hs hplain) fun σ H Q h => hK ▸ mu_of hm h
theorem r_mu0 (hK : T.K = X.K) (slot : Slot "list" name id) (hty : typeOf (.builtin id) = pure (.type "method_descriptor")) (hr : MtR X id r) (hm : MuL T.toCfg r f) (ho : PE X o (TRm T ra))
    (hbase : attributeBase o name X.env (eval o X.env) = eval o X.env := by rfl) (hline : (apos.endLine == cpos.line) = true := by rfl) :
    PE X (.Call (.Attribute o name apos) [] [] cpos) (TEm T (eMu ra aNil f)) := peI (pe_bm0 PySem.F.plainAttrs_list slot hty hr ho hbase hline) fun σ H Q h => by
  have q := mu_of (as := aNil) hm h
  obtain ⟨S, B, rl, q⟩ := q
  refine ⟨S, B, rl, q.imp fun b H' ⟨ty, S1, B1, r1, q1⟩ => ?_⟩
  exact ⟨hK ▸ ty, q1 [] H' B1 r1 .rfl' .nil⟩
end
def muApp (xs as : List D) : Option (D × List D) := match as with
  | [d] => if xs.length < sizeLine then some (.non, xs ++ [d]) else none
  | _ => none
def muIns (xs as : List D) : Option (D × List D) := match as with
  | [.int i, d] => if xs.length < sizeLine ∧ 0 ≤ i ∧ i < 2 ^ 63 then some (.non, xs.take i.toNat ++ [d] ++ xs.drop i.toNat) else none
  | _ => none
def muPop (xs as : List D) : Option (D × List D) := match as, xs[xs.length - 1]? with
  | [], some d => some (d, xs.dropLast)
  | _, _ => none
theorem RepL.dropLast {T : Cfg} {B : Bd} {ds : List D} {vs : List V} (h : RepL T B ds vs) : RepL T B ds.dropLast vs.dropLast := by
  rw [List.dropLast_eq_take, List.dropLast_eq_take, h.length]
  exact RepL.take _ h
section
variable {T : Cfg}
theorem m_app : MuL T rAppend muApp := by
  intro B H a xs ds as vs res ds' Q hx rx ra e k
  unfold muApp at e
  cases ra with
  | nil => cases e
  | @cons d as v vs q1 q2 =>
    cases q2 with
    | cons _ _ => cases e
    | nil =>
      replace e : (if ds.length < sizeLine then some (D.non, ds ++ [d]) else none) = some (res, ds') := e
      by_cases c : ds.length < sizeLine
      · rw [if_pos c] at e; cases e
        exact ⟨a, xs, v, rfl, rfl, hx, by rw [← rx.length]; exact c, k _ _ .non (rx.append (.cons q1 .nil))⟩
      · rw [if_neg c] at e; cases e
theorem m_ins : MuL T (fun x vs H Q => ∃ (l : Addr) (xs : List V) (i : Int) (y : V), x = .ref l ∧ vs = [.int i, y] ∧ H l = some (.lst xs) ∧ xs.length < sizeLine ∧ 0 ≤ i ∧ i < 2 ^ 63 ∧
    Q .non (upd H l (.lst (xs.take i.toNat ++ [y] ++ xs.drop i.toNat)))) muIns := by
  intro B H a xs ds as vs res ds' Q hx rx ra e k
  unfold muIns at e
  cases ra with
  | nil => cases e
  | cons q1 q2 =>
    cases q2 with
    | nil => cases q1 <;> cases e
    | cons q2 q3 =>
      cases q3 with
      | cons _ _ => cases q1 <;> cases e
      | nil =>
        cases q1 <;> first | (cases e; done) | skip
        rename_i d v i
        replace e : (if ds.length < sizeLine ∧ 0 ≤ i ∧ i < 2 ^ 63 then some (D.non, ds.take i.toNat ++ [d] ++ ds.drop i.toNat) else none) = some (res, ds') := e
        by_cases c : ds.length < sizeLine ∧ 0 ≤ i ∧ i < 2 ^ 63
        · rw [if_pos c] at e; cases e
          exact ⟨a, xs, i, v, rfl, rfl, hx, by rw [← rx.length]; exact c.1, c.2.1, c.2.2, k _ _ .non (((rx.take _).append (.cons q2 .nil)).append (rx.drop _))⟩
        · rw [if_neg c] at e; cases e
theorem m_pop : MuL T rPop muPop := by
  intro B H a xs ds as vs res ds' Q hx rx ra e k
  unfold muPop at e
  cases ra with
  | cons _ _ => cases e
  | nil =>
    cases el : ds[ds.length - 1]? with
    | none => rw [el] at e; cases e
    | some d =>
      rw [el] at e; cases e
      obtain ⟨v, ev, q⟩ := rx.get el
      exact ⟨a, xs, v, rfl, rfl, hx, by rw [← rx.length]; exact ev, k _ _ q rx.dropLast⟩
end

/-! ### a new cell -/
def eCel (f : Frs) : Exp := fun S => (f S).bind fun s S1 => match s.cl with
  | some c => .ok (.cel S1.sto.length) ⟨S1.env, S1.sto ++ [c]⟩
  | none => .st
theorem r_cel {X : Cx} {T : Su} {e : Expr} {f : Frs} (h : PE X e (TFm T f)) : PE X e (TEm T (eCel f)) := peI h fun σ H Q ⟨S, B, rl, h⟩ => by
  refine ⟨S, B, rl, ?_⟩
  unfold eCel at h
  cases e1 : f S with
  | st => rw [e1] at h; exact h.elim
  | ex c fs S1 => rw [e1] at h; exact h
  | ok s S1 =>
    rw [e1] at h
    replace h : PostR T σ B (RelD T) Q (match s.cl with | some c => .ok (.cel S1.sto.length) ⟨S1.env, S1.sto ++ [c]⟩ | none => .st) := h
    intro p o H' B1 hp r1 l1 lv q1
    have fin : ∀ c, s.cl = some c → CeOk T.toCfg B1 (upd H' p o) c p → Q (.ref p) (upd H' p o) := fun c ec qc => by
      rw [ec] at h
      obtain ⟨r2, l2⟩ := r1.newC hp qc
      refine h _ _ _ r2 (l1.trans l2) (.cel ?_)
      show (B1.ρ ++ [p])[S1.sto.length]? = some p
      rw [r1.cl, List.getElem?_append_right (Nat.le_refl _)]
      simp
    cases s with
    | un => cases lv
    | va _ => cases lv
    | xc _ _ => cases lv
    | od t kvs => exact h.elim
    | ol ds =>
      obtain ⟨a, xs, ea, k, q⟩ := q1
      cases ea
      exact fin _ rfl ⟨xs, k, q⟩
    | oi c fs =>
      obtain ⟨a, C, dx, vs, ea, hc, k, q⟩ := q1
      cases ea
      exact fin _ rfl ⟨C, dx, vs, hc, k, q⟩
end Mir
/-! Mir12: exceptions: raise, try, fields; repr. -/
namespace Mir
open PySem PySem.Spec PyProof.Rows L2

/-! ### an exception that is made -/
abbrev Mkx := MS → R (Str × List (Str × D))
def PostK (T : Su) (σ : L2.St) (B : Bd) (Q : XK) : R (Str × List (Str × D)) → Prop
  | .ok p S' => ∀ C d H' B', T.cls p.1 = some C → XdOk T.toCfg B' d p.2 → Rl T.toZu S' σ H' B' → B.le B' → Q (.ref C) d H'
  | .ex c fs S' => ∀ C d H' B', T.cls c = some C → XdOk T.toCfg B' d fs → Rl T.toZu S' σ H' B' → B.le B' → T.W (.ref C) d σ H'
  | .st => False
def TKm (T : Su) (m : Mkx) : L2.St → Hp → XK → Prop := fun σ H Q => ∃ S B, Rl T.toZu S σ H B ∧ PostK T σ B Q (m S)
theorem pkI {X : Cx} {e : Expr} {t t' : L2.St → Hp → XK → Prop} (h : PMk X e t) (k : ∀ σ H Q, t' σ H Q → t σ H Q) : PMk X e t' := fun pins s σ H Q I q => h pins s σ H Q I (k σ H Q q)
def sRaise (m : Mkx) : Stm := fun S => (m S).bind fun p S1 => .ex p.1 p.2 S1
theorem y_raise {X : Cx} {T : Su} {e : Expr} {m : Mkx} {pos : Pos} (hc : X.calm = true) (tk : Takes X T.W) (he : PMk X e (TKm T m)) : PS X (.Raise (some e) none pos) (TSm T (sRaise m)) := psI (ps_raise hc tk he) fun D σ H ⟨S, B, rl, h⟩ => by
  refine ⟨S, B, rl, ?_⟩
  have h' : PostS T B D ((m S).bind fun p S1 => .ex p.1 p.2 S1) := h
  cases e1 : m S with
  | st => rw [e1] at h'; exact h'.elim
  | ex c fs S1 => rw [e1] at h'; exact fun C d H' B' q1 q2 r l => h' C d σ H' B' q1 q2 r l
  | ok p S1 => rw [e1] at h'; exact fun C d H' B' q1 q2 r l => h' C d σ H' B' q1 q2 r l
/-- C(e, ..): the fields are the arguments -/
def mkF (c : Str) (ns : List Str) (as : Exps) : Mkx := fun S => (as S).bind fun ds S1 => if ds.length = ns.length then .ok (c, ns.zip ds) S1 else .st
def tMkF (C : Addr) (ns : List Str) (t : TA) : L2.St → Hp → XK → Prop := fun σ H Q => t σ H fun vs H1 => vs.length = ns.length ∧ ∀ d, H1 d = none → Q (.ref C) (some d) (upd H1 d (.xd (ns.zip vs)))
theorem RepL.zip {T : Cfg} {B : Bd} : ∀ {ns : List Str} {ds : List D} {vs : List V}, RepL T B ds vs → RepF T B (ns.zip ds) (ns.zip vs)
  | [], _, _, _ => .nil
  | _ :: _, _, _, .nil => .nil
  | _ :: _, _, _, .cons a b => .cons a (RepL.zip b)
theorem PostK.bind {α β : Type} {T : Su} {σ : L2.St} {B : Bd} {Q : XK} {rel : Bd → α → β → Prop} {P : β → Hp → Prop} {r : R α} {f : α → MS → R (Str × List (Str × D))} (h : PostK T σ B Q (r.bind f))
    (k : ∀ a S1 b H1 B1, Rl T.toZu S1 σ H1 B1 → B.le B1 → rel B1 a b → PostK T σ B1 Q (f a S1) → P b H1) : PostR T σ B rel P r := by
  cases r with
  | ok a S =>
    refine fun b H' B' x l e => k a S b H' B' x l e ?_
    have h' : PostK T σ B Q (f a S) := h
    cases e2 : f a S with
    | ok s S2 => rw [e2] at h'; exact fun C d H2 B2 q1 q2 r2 l2 => h' C d H2 B2 q1 q2 r2 (l.trans l2)
    | ex c fs S2 => rw [e2] at h'; exact fun C d H2 B2 q1 q2 r2 l2 => h' C d H2 B2 q1 q2 r2 (l.trans l2)
    | st => rw [e2] at h'; exact h'.elim
  | ex c fs S => exact h
  | st => exact h
theorem k_fld {X : Cx} {T : Su} {C : Addr} {c : Str} {ns : List Str} {e : Expr} {as : Exps} (hC : T.cls c = some C) (he : PMk X e (tMkF C ns (TAm T as))) : PMk X e (TKm T (mkF c ns as)) := pkI he fun σ H Q ⟨S, B, rl, h⟩ => by
  refine ⟨S, B, rl, PostK.bind h fun ds S1 vs H1 B1 r1 l1 q1 h1 => ?_⟩
  by_cases c : ds.length = ns.length
  · rw [if_pos c] at h1
    refine ⟨by rw [← q1.length]; exact c, fun d hd => ?_⟩
    have le := Bd.le_add (o := HO.xd (ns.zip vs)) (r1.gnone hd)
    exact h1 C (some d) _ _ hC (.inr ⟨d, _, rfl, upd_same, (RepL.zip q1).le le⟩) (r1.alloc hd _) le
  · rw [if_neg c] at h1; exact h1.elim
/-- C(), no field -/
def mk0 (c : Str) : Mkx := fun S => .ok (c, []) S
theorem k_0 {X : Cx} {T : Su} {C : Addr} {c : Str} {e : Expr} (hC : T.cls c = some C) (he : PMk X e (fun σ H Q => Q (.ref C) none H)) : PMk X e (TKm T (mk0 c)) := pkI he fun σ H Q ⟨S, B, rl, h⟩ => h C none H B hC (.inl rfl) rl .rfl'

/-! ### try -/
def Sl.nox : Sl → Sl
  | .xc _ _ => .un
  | s => s
def MS.nox (S : MS) : MS := ⟨S.env.map Sl.nox, S.sto⟩
theorem Rl.nox {T : Cfg} {Z Z' : Addr → Value → Option Addr → Prop} {S : MS} {σ : L2.St} {H : Hp} {B : Bd} (r : Rl ⟨T, Z⟩ S σ H B) : Rl ⟨T, Z'⟩ S.nox σ H B := by
  have at_ : ∀ {i : Nat} {s : Sl}, (S.nox).env[i]? = some s → ∃ s0, S.env[i]? = some s0 ∧ s = s0.nox := fun {i s} e => by
    have e : (S.env.map Sl.nox)[i]? = some s := e
    rw [List.getElem?_map] at e
    obtain ⟨s0, e0, e1⟩ := Option.map_eq_some_iff.mp e
    exact ⟨s0, e0, e1.symm⟩
  have ow : ∀ {i a}, Owns S.nox σ i a → Owns S σ i a := fun {i a} ⟨⟨s, e, l⟩, h⟩ => by
    obtain ⟨s0, e0, rfl⟩ := at_ e
    exact ⟨⟨s0, e0, by cases s0 <;> first | rfl | cases l⟩, h⟩
  refine ⟨?_, r.g, r.lk, r.f, fun i s e => ?_, r.cl, r.ce, fun i a h => r.fs i a (ow h), r.fc, fun i j a h1 h2 => r.ds i j a (ow h1) (ow h2), r.dc⟩
  · show σ.length = (S.env.map Sl.nox).length
    rw [List.length_map]; exact r.ln
  · obtain ⟨s0, e0, rfl⟩ := at_ e
    have x := r.sl i s0 e0
    cases s0 <;> first | exact x | trivial
/-- a slot is emptied -/
theorem Rl.unset {T : Zu} {S : MS} {σ : L2.St} {H : Hp} {B : Bd} (r : Rl T S σ H B) (i : Nat) (o : Option V) : Rl T (S.put i .un) (σ.set i o) H B := by
  have ow : ∀ {j a}, Owns (S.put i .un) (σ.set i o) j a → Owns S σ j a := fun {j a} ⟨⟨s, e, l⟩, h⟩ => by
    have e : (S.env.set i .un)[j]? = some s := e
    by_cases z : i = j
    · subst z
      rw [List.getElem?_set_self (by have := (List.getElem?_eq_some_iff.mp e).1; simpa using this)] at e
      cases e; cases l
    · rw [List.getElem?_set_ne z] at e h
      exact ⟨⟨s, e, l⟩, h⟩
  refine ⟨?_, r.g, r.lk, r.f, fun j s e => ?_, r.cl, r.ce, fun j a h => r.fs j a (ow h), r.fc, fun j k a h1 h2 => r.ds j k a (ow h1) (ow h2), r.dc⟩
  · show (σ.set i o).length = (S.env.set i .un).length
    rw [List.length_set, List.length_set]; exact r.ln
  · have e : (S.env.set i .un)[j]? = some s := e
    by_cases z : i = j
    · subst z
      rw [List.getElem?_set_self (by have := (List.getElem?_eq_some_iff.mp e).1; simpa using this)] at e
      cases e; trivial
    · rw [List.getElem?_set_ne z] at e
      rw [List.getElem?_set_ne z]
      exact r.sl j s e
/-- the exception comes into its slot -/
theorem Rl.caught {T : Cfg} {Z Z' : Addr → Value → Option Addr → Prop} {S : MS} {σ : L2.St} {H : Hp} {B : Bd} (r : Rl ⟨T, Z⟩ S σ H B) {i : Nat} (hi : i < S.env.length) {c : Str} {fs : List (Str × D)} {a C : Addr} {d : Option Addr} (hC : T.cls c = some C) (hz : Z' a (.ref C) d) (hx : XdOk T B d fs) :
    Rl ⟨T, Z'⟩ (S.nox.put i (.xc c fs)) (σ.set i (some (.ref a))) H B := by
  have r0 : Rl ⟨T, Z'⟩ S.nox σ H B := r.nox
  have hi' : i < S.nox.env.length := by show i < (S.env.map Sl.nox).length; rw [List.length_map]; exact hi
  have ow : ∀ {j b}, Owns (S.nox.put i (.xc c fs)) (σ.set i (some (.ref a))) j b → Owns S.nox σ j b := fun {j b} ⟨⟨s, e, l⟩, h⟩ => by
    have e : (S.nox.env.set i (.xc c fs))[j]? = some s := e
    by_cases z : i = j
    · subst z
      rw [List.getElem?_set_self hi'] at e
      cases e; cases l
    · rw [List.getElem?_set_ne z] at e h
      exact ⟨⟨s, e, l⟩, h⟩
  refine ⟨?_, r0.g, r0.lk, r0.f, fun j s e => ?_, r0.cl, r0.ce, fun j b h => r0.fs j b (ow h), r0.fc, fun j k b h1 h2 => r0.ds j k b (ow h1) (ow h2), r0.dc⟩
  · show (σ.set i _).length = (S.nox.env.set i _).length
    rw [List.length_set, List.length_set]; exact r0.ln
  · have e : (S.nox.env.set i (.xc c fs))[j]? = some s := e
    by_cases z : i = j
    · subst z
      rw [List.getElem?_set_self hi'] at e
      cases e
      exact ⟨a, C, d, List.getElem?_set_self (by rw [r0.ln]; exact hi'), hC, hz, hx⟩
    · rw [List.getElem?_set_ne z] at e
      rw [List.getElem?_set_ne z]
      exact r0.sl j s e
/-- behind a suite -/
def outS (f : MS → MS) : R Fl → R Fl
  | .ok fl S => .ok fl (f S)
  | _ => .st
/-- try: b / except (a class that isa tells) as the slot i: s -/
def sTryAs (isa : Str → Bool) (i : Nat) (b s : Stm) : Stm := fun S => match b S with
  | .ex c fs S1 => if isa c = true then (if i < S1.env.length then outS (fun S => (S.nox).put i .un) (s ((S1.nox).put i (.xc c fs))) else .st) else .ex c fs S1
  | r => r
def sTry (isa : Str → Bool) (b s : Stm) : Stm := fun S => match b S with
  | .ex c fs S1 => if isa c = true then outS MS.nox (s S1.nox) else .ex c fs S1
  | r => r
/-- isa tells which classes the clause takes -/
def Isa (T : Cfg) (K : PySem.W.Frag) (c0 : Value) (isa : Str → Bool) : Prop := ∀ c C, T.cls c = some C → PySem.W.exmOne K (.ref C) c0 = some (isa c)
/-- T in a suite -/
abbrev Su.sui (T : Su) (a : Addr) (cls : Value) (d : Option Addr) : Su := ⟨⟨T.toCfg, fun a' cls' d' => a' = a ∧ cls' = cls ∧ d' = d⟩, fun _ _ _ _ => False⟩
section
variable {X : Cx} {T : Su} {x n : Str} {c0 : Value} {i : Nat} {body suite : List Stmt} {b₀ : Stmt} {np pos pos' : Pos} {b s : Stm} {isa : Str → Bool}
theorem y_tryAs (hK : T.K = X.K) (hs : X.stack = X.env :: X.outer) (hf : X.env.frame = some X.env.locals) (hN : X.N.Nodup) (hi : X.N[i]? = some n) (hln : X.env.kindOf n = some .local) (hc : Names X x c0) (tk : Takes X T.W) (hisa : Isa T.toCfg X.K c0 isa)
    (hb : ∀ (W : WX) (pn : List (Addr × Obj)) (xe : Value → Shared → Prop), Takes (X.tr pn xe) W → PassesOwn (model X.prog X.w) X.A X.env xe → PSs (X.tr pn xe) body (TSm { T with W := W } b))
    (hsu : ∀ (a : Addr) (oe : Obj) (cls : Value) (d : Option Addr) (pn : List (Addr × Obj)), Zc cls d oe → (∃ vs, oe.data = .fields vs) → PSs (X.suite a ((a, oe) :: pn)) (b₀ :: suite) (TSm (T.sui a cls d) s)) :
    PS X (.Try body [.ExceptHandler (some (.Name x np)) (some n) (b₀ :: suite) pos'] [] [] pos) (TSm T (sTryAs isa i b s)) :=
  psI (ps_try_as (tb := fun W => TSm { T with W := W } b) (ts := fun a cls d => TSm (T.sui a cls d) s) hs hf hN hi hln hc tk hb hsu) fun D σ H ⟨S, B, rl, h⟩ => by
    refine ⟨S, B, rl, ?_⟩
    unfold sTryAs at h
    cases e : b S with
    | st => rw [e] at h; exact h.elim
    | ok fl S1 => rw [e] at h; cases fl <;> exact h
    | ex c fs S1 =>
      rw [e] at h
      have h : PostS T B D (if isa c = true then (if i < S1.env.length then outS (fun S => (S.nox).put i .un) (s ((S1.nox).put i (.xc c fs))) else .st) else .ex c fs S1) := h
      intro C d σ' H' B' hC hx r l
      refine ⟨isa c, hisa c C hC, fun t a na => ?_, fun f => ?_⟩
      · rw [if_pos t] at h
        by_cases hi : i < S1.env.length
        · rw [if_pos hi] at h
          refine ⟨(S1.nox).put i (.xc c fs), B', Rl.caught r hi hC ⟨rfl, rfl, rfl⟩ hx, ?_⟩
          have h := PostS.le h l
          cases e2 : s ((S1.nox).put i (.xc c fs)) with
          | st => rw [e2] at h; exact h.elim
          | ex _ _ _ => rw [e2] at h; exact h.elim
          | ok fl S2 =>
            rw [e2] at h
            cases fl with
            | nx => exact fun σ2 H2 B2 r2 l2 => h _ H2 B2 ((r2.nox (Z' := T.Z)).unset i none) l2
            | bk => exact fun σ2 H2 B2 r2 l2 => h _ H2 B2 ((r2.nox (Z' := T.Z)).unset i none) l2
            | ct => exact fun σ2 H2 B2 r2 l2 => h _ H2 B2 ((r2.nox (Z' := T.Z)).unset i none) l2
            | rt v => exact fun u σ2 H2 B2 r2 l2 q2 => h u _ H2 B2 ((r2.nox (Z' := T.Z)).unset i none) l2 q2
        · rw [if_neg hi] at h; exact h.elim
      · rw [if_neg (by rw [f]; decide)] at h
        exact h C d σ' H' B' hC hx r l
theorem y_try (hK : T.K = X.K) (hs : X.stack = X.env :: X.outer) (hf : X.env.frame = some X.env.locals) (hc : Names X x c0) (tk : Takes X T.W) (hisa : Isa T.toCfg X.K c0 isa)
    (hb : ∀ (W : WX) (pn : List (Addr × Obj)) (xe : Value → Shared → Prop), Takes (X.tr pn xe) W → PassesOwn (model X.prog X.w) X.A X.env xe → PSs (X.tr pn xe) body (TSm { T with W := W } b))
    (hsu : ∀ (a : Addr) (oe : Obj) (cls : Value) (d : Option Addr) (pn : List (Addr × Obj)), Zc cls d oe → (∃ vs, oe.data = .fields vs) → PSs (X.suite a ((a, oe) :: pn)) (b₀ :: suite) (TSm (T.sui a cls d) s)) :
    PS X (.Try body [.ExceptHandler (some (.Name x np)) none (b₀ :: suite) pos'] [] [] pos) (TSm T (sTry isa b s)) :=
  psI (ps_try_only (tb := fun W => TSm { T with W := W } b) (ts := fun a cls d => TSm (T.sui a cls d) s) hs hf hc tk hb hsu) fun D σ H ⟨S, B, rl, h⟩ => by
    refine ⟨S, B, rl, ?_⟩
    unfold sTry at h
    cases e : b S with
    | st => rw [e] at h; exact h.elim
    | ok fl S1 => rw [e] at h; cases fl <;> exact h
    | ex c fs S1 =>
      rw [e] at h
      have h : PostS T B D (if isa c = true then outS MS.nox (s S1.nox) else .ex c fs S1) := h
      intro C d σ' H' B' hC hx r l
      refine ⟨isa c, hisa c C hC, fun t a na => ?_, fun f => ?_⟩
      · rw [if_pos t] at h
        refine ⟨S1.nox, B', Rl.nox r, ?_⟩
        have h := PostS.le h l
        cases e2 : s S1.nox with
        | st => rw [e2] at h; exact h.elim
        | ex _ _ _ => rw [e2] at h; exact h.elim
        | ok fl S2 =>
          rw [e2] at h
          cases fl with
          | nx => exact fun σ2 H2 B2 r2 l2 => h _ H2 B2 (r2.nox (Z' := T.Z)) l2
          | bk => exact fun σ2 H2 B2 r2 l2 => h _ H2 B2 (r2.nox (Z' := T.Z)) l2
          | ct => exact fun σ2 H2 B2 r2 l2 => h _ H2 B2 (r2.nox (Z' := T.Z)) l2
          | rt v => exact fun u σ2 H2 B2 r2 l2 q2 => h u _ H2 B2 (r2.nox (Z' := T.Z)) l2 q2
      · rw [if_neg (by rw [f]; decide)] at h
        exact h C d σ' H' B' hC hx r l
end

/-! ### e.f in a suite -/
def eXf (i : Nat) (c f : Str) : Exp := fun S => match S.env[i]? with
  | some (.xc c' fs) => if c' = c then liftO S (fs.lookup f) else .st
  | _ => .st
theorem RepF.get {T : Cfg} {B : Bd} {f : Str} : ∀ {fs : List (Str × D)} {vs : List (Str × V)} {d : D}, RepF T B fs vs → fs.lookup f = some d → ∃ v, vs.lookup f = some v ∧ Rep T B d v
  | _, _, _, .nil, e => by cases e
  | _, _, d, .cons (f := g) a b, e => by
    rw [List.lookup_cons] at e
    rw [List.lookup_cons]
    cases h : f == g with
    | true => rw [h] at e; cases e; exact ⟨_, rfl, a⟩
    | false => rw [h] at e; exact b.get e
theorem r_xf {X : Cx} {T : Su} {i : Nat} {x c f : Str} {C : Addr} {a : Addr} {oe : Obj} {cls : Value} {d : Option Addr} {pn : List (Addr × Obj)} {pos pos' : Pos} (hC : T.cls c = some C) (tx : XfC X.K C) (hno : PySem.W.findIn X.K (.ref C) f = some none)
    (hz : Zc cls d oe) (hf : ∃ vs, oe.data = .fields vs) (hN : X.N[i]? = some x) (hv : Vis X.env.scope x) (hd : (x == ("__debug__" : Str)) = false := by decide) (hcd : (x == ("__classdict__" : Str)) = false := by decide)
    (hb : attributeBase (.Name x pos') f X.env (eval (.Name x pos') X.env) = eval (.Name x pos') X.env := by rfl) :
    PE (X.suite a ((a, oe) :: pn)) (.Attribute (.Name x pos') f pos) (TEm (T.sui a cls d) (eXf i c f)) := peI (pe_xf tx hno hz hf (pe_var (X := X.suite a ((a, oe) :: pn)) hN hv hd hcd) hb) fun σ H Q ⟨S, B, rl, h⟩ => by
  unfold eXf at h
  cases e : S.env[i]? with
  | none => rw [e] at h; exact h.elim
  | some s =>
    rw [e] at h
    have x0 := rl.sl i s e
    cases s <;> first | exact h.elim | skip
    rename_i c' fs
    have h : PostR (T.sui a cls d) σ B (RelD (T.sui a cls d)) Q (if c' = c then liftO S (fs.lookup f) else .st) := h
    by_cases ec : c' = c
    · subst ec
      rw [if_pos rfl] at h
      obtain ⟨dd, ed, k⟩ := liftO_post h
      obtain ⟨a', C', d', ea, hC', ⟨ha, hcls, hd'⟩, hx⟩ := x0
      subst ha
      rw [show T.cls c' = some C from hC] at hC'
      cases hC'
      subst hd'
      rcases hx with hx | ⟨dx, vs, edx, hg, rf⟩
      · subst hx; cases ed
      · obtain ⟨v, ev, rv⟩ := rf.get ed
        refine ⟨.ref a', ea, rfl, hcls.symm, dx, vs, v, edx, ?_, ev, k v H B rl .rfl' rv⟩
        exact (rl.g dx _ hg).ex rfl
    · rw [if_neg ec] at h; exact h.elim

/-! ### repr -/
def reprO (d : D) : Option D := if d.ok 60 = true ∧ d.py.showable = true ∧ d.py.hasDict = false ∧ d.py.depth ≤ 60 ∧ d.py.shown.length ≤ sizeLine then some (.str d.py.shown) else none
def rRepr (K : PySem.W.Frag) : List V → Hp → VK → Prop := fun xs H Q => ∃ v d, xs = [v] ∧ Dp K H v d ∧ d.showable = true ∧ d.hasDict = false ∧ d.depth ≤ 60 ∧ d.shown.length ≤ sizeLine ∧ Q (.str d.shown) H
theorem call_reprM {X : Cx} (hgd : X.A.guards = some []) (hu : X.A.units + 62 < cLine) : CallR X (.builtin "repr") (rRepr X.K) := by
  intro pins s σ H xs us Q I r h
  obtain ⟨v, d, rfl, dp, h1, h2, h3, h4, q⟩ := h
  obtain ⟨u, rfl, rv⟩ := vals1 r
  obtain ⟨as, rd⟩ := Dp.reads I d v u dp rv
  have rd' := rd
  cases rd with
  | none => exact PySem.P.repr_of_none ⟨.str _, H, I.tok _, ⟨_, rfl⟩, q⟩
  | bool b => exact PySem.P.repr_of_bool ⟨.str _, H, I.tok _, ⟨_, rfl⟩, q⟩
  | int i t => exact PySem.P.repr_of_int (by simpa [PyData.showable] using h1) ⟨.str _, H, I.tok _, ⟨_, rfl⟩, q⟩
  | str x t => exact PySem.P.repr_of_str ⟨.str _, H, I.tok _, ⟨_, rfl⟩, q⟩ h4
  | _ =>
    refine repr_of_reads' rd' h1 (fun z => by rw [h2] at z; cases z) hgd (by omega) (fun b o e => e) (fun h' u tk hk => ?_) h4
    exact ⟨.str _, H, I.kept (t' := tk) hk, ⟨_, rfl⟩, q⟩
end Mir
set_option maxHeartbeats 2000000
/-! Mir13: own errors over ValueError whose __init__ says super().__init__(..), then stores its arguments. -/
namespace Mir
open PySem PySem.Spec PyProof.Rows L2 PySem.W PySem.HandSPX

/-! ### the text of such an __init__: one field, two -/
def eA1 (n1 : Str) (p1 p2 : Pos) : Arguments := { posonlyargs := [], args := [{ arg := "self", annotation := none, pos := p1 }, { arg := n1, annotation := none, pos := p2 }], vararg := none, kwonlyargs := [], kw_defaults := [], kwarg := none, defaults := [] }
def eA2 (n1 n2 : Str) (p1 p2 p3 : Pos) : Arguments := { posonlyargs := [], args := [{ arg := "self", annotation := none, pos := p1 }, { arg := n1, annotation := none, pos := p2 }, { arg := n2, annotation := none, pos := p3 }], vararg := none, kwonlyargs := [], kw_defaults := [], kwarg := none, defaults := [] }
def eSup (as : List Expr) (q0 q1 q2 q4 q5 : Pos) : Stmt := .Expr (.Call (.Attribute (.Call (.Name "super" q0) [] [] q1) "__init__" q2) as [] q4) q5
def eSet (n : Str) (r1 r2 r3 r4 : Pos) : Stmt := .Assign [.Attribute (.Name "self" r1) n r2] (.Name n r3) r4
def eS1 (n1 : Str) : Scope := { kind := .function, names := [(PySem.Str.ofString "self", .local), (n1, .local), (PySem.Str.ofString "__class__", .free), (PySem.Str.ofString "super", .globalImplicit)], isGenerator := false, isCoroutine := false, more := [] }
def eS2 (n1 n2 : Str) : Scope := { kind := .function, names := [(PySem.Str.ofString "self", .local), (n1, .local), (n2, .local), (PySem.Str.ofString "__class__", .free), (PySem.Str.ofString "super", .globalImplicit)], isGenerator := false, isCoroutine := false, more := [] }

/-- what the written part says of such a class at C -/
structure ErrC (prog : Program) (K : Frag) (mg : Str → Option Value) (C cda cc : Addr) : Prop where
  cls : ∃ nm q N bs bm sn sub ab col dd k0 k1 k2 k3 k5, K.lookup C = some (excClassObj nm q C N bs bm true sn sub ab col dd k0 k1 k2 k3 k5 "ValueError.__new__") ∧ refsVE bm = true
  sa : findIn K (.ref C) "__setattr__" = some (some (.builtin "object.__setattr__"))
  kC : keepIn K (.ref C) = true
  exC : subIn K (.ref C) (.type "BaseException") = some true
  veC : subIn K (.ref C) (.type "ValueError") = some true
  tyC : typeIn K (.ref C) = some (.type "type")
  suC : mroIn K C (.ref C) = some true
  opq : nsIn K cStatics "thirdparty.any" = some none
  sup : mg "super" = none
  along : ks_superIn K C C "__init__" = some (some (.builtin "ValueError.__init__"))
  code : ∃ (ccl : Value) (cdd : Option Addr) (vs : Array Value) (ccs : Array (Option Value)) (file : Str) (tf : Tok), K.lookup cda = some ⟨ccl, cdd, .fields vs, ccs⟩ ∧ vs[2]? = some (.str file tf) ∧ ((prog.main.file : Str) == file) = true
  cell : ∃ (cl : Value) (cld : Option Addr) (csl : Array (Option Value)), K.lookup cc = some ⟨cl, cld, .cell (some (.ref C)), csl⟩
  top : (prog.main.scope.names.lookup ("super" : Str)).isSome = false
/-- .. of its __init__ -/
structure ErrI (K : Frag) (C fI cda cc : Addr) (qual : Str) (pA : Arguments) (pB : List Stmt) (pS : Scope) : Prop where
  iC : findIn K (.ref C) "__init__" = some (some (.ref fI))
  tC : typeIn K (.ref fI) = some (.type "function")
  fn : ∃ (oc : Value) (od : Option Addr) (kV doc pm : Value) (an : Option Addr) (ct : Value) (osl : Array (Option Value)),
    K.lookup fI = some ⟨oc, od, .func (ksFn "__init__" qual pA pB pS .none kV doc pm an (.ref cda) ct cc), osl⟩ ∧ codeIn K (.ref cda) qual = true

section
variable {prog : Program} {w : World} {A : Around} {E : Value → Shared → Prop} {R : Result → Shared → Prop} {s : Shared} {K : Frag} {mg : Str → Option Value} {C fI cda cc : Addr}
theorem excO_of {x : Addr} {C t : Addr} {h : Heap} (e : h.get? x = some (excO C t)) : h.get? x = some (excRec (.ref C) t none .none .none (.bool false)) := e
/-- the call super().__init__(..), as the model runs it -/
def SupCall (env : Env) (q0 q1 q2 q4 : Pos) (es : List Expr) : Prop := ∃ pl : Sem Bool, eval (Expr.Call (Expr.Attribute (Expr.Call (Expr.Name "super" q0) [] [] q1) "__init__" q2) es [] q4) env = (do
      let ov ← attributeBase (Expr.Call (Expr.Name "super" q0) [] [] q1) "__init__" env (eval (Expr.Call (Expr.Name "super" q0) [] [] q1) env)
      standAt q2.atName
      let (f, first) ← holding [ov] (getMethod ov "__init__" pl)
      callWith q4 f first (backTo q4 (starEach es env)) [])
/-- super().__init__(..) -/
theorem err_super {qual : Str} {scope : Scope} {L x t0 : Addr} {m mb : Str → Option Value} {body : List Stmt} {oc : Value} {od : Option Addr} {osl : Array (Option Value)} {fd : FuncData} {ar : Arg} {e : Expr} {es : List Expr} {vs : List Value} {q0 q1 q2 q4 q5 : Pos} {Q : Flow → Shared → Prop}
    (T : ErrC prog K mg C cda cc) (X : K.In s.heap) (hg : s.heap.Ns mainGlobals mg) (hbn : s.heap.Ns builtinsNs mb) (hbb : ∀ x : Str, x ≠ "__name__" → mb x = bootBuiltins x) (hlim : s.heap.NoLimit)
    (hfo : K.lookup fI = some ⟨oc, od, .func fd, osl⟩) (hp : (fd.params.posonlyargs ++ fd.params.args).head? = some ar) (har : ar.arg = "self")
    (hn : s.heap.Ns L m) (hself : m "self" = some (.ref x)) (hx : s.heap.get? x = some (excO C t0))
    (hk : scope.kind = .function) (hks : scope.names.lookup ("super" : Str) = some .globalImplicit) (hkc : scope.names.lookup ("__class__" : Str) = some .free) (hka : scope.names.lookup ("self" : Str) = some .local)
    (hz : vs.length ≤ sizeLine)
    (hev : ∀ s' : Shared, s'.heap.Ns L m → wpAny (model prog w) A (spliced (backTo q4 (starEach (e :: es) (ksEnv qual scope L fI (.ref cda) cc)))) (fun us s'' => us = vs ∧ s'' = s') E s')
    (he : starEach (e :: es) (ksEnv qual scope L fI (.ref cda) cc) = (false, eval e (ksEnv qual scope L fI (.ref cda) cc)) :: starEach es (ksEnv qual scope L fI (.ref cda) cc) := by rfl) (hpl : (backTo q4 (starEach es (ksEnv qual scope L fI (.ref cda) cc))).any (·.1) = false := by rfl)
    (hwhole : SupCall (ksEnv qual scope L fI (.ref cda) cc) q0 q1 q2 q4 (e :: es))
    (hsw : swapsWith (Expr.Call (Expr.Attribute (Expr.Call (Expr.Name "super" q0) [] [] q1) "__init__" q2) (e :: es) [] q4) none q5.line (ksEnv qual scope L fI (.ref cda) cc) = pure false)
    (hq : ∀ h' t1 tk, (∀ b o, b ≠ x → s.heap.get? b = some o → h'.get? b = some o) → h'.get? x = some (excO C t1) → s.heap.objs.size ≤ h'.objs.size → Q .next { s with heap := h', toks := tk }) :
    PySem.wpAt (model prog w) A (.func body (ksEnv qual scope L fI (.ref cda) cc)) (exec (eSup (e :: es) q0 q1 q2 q4 q5) (ksEnv qual scope L fI (.ref cda) cc)) Q E s := by
  unfold eSup
  obtain ⟨pl, hwhole⟩ := hwhole
  have hi : interactive (ksEnv qual scope L fI (.ref cda) cc) = false := by show (scope.kind == .module && _) = false; rw [hk]; rfl
  refine ks_wpAt_Expr_any ?_ hi hsw
  refine ks_wpAt_MethodCall (pl := pl) ?_ hwhole
  obtain ⟨ccl, cdd, cvs, ccs, file, tf, hcode, hvs, hfile⟩ := T.code
  obtain ⟨cl, cld, csl, hcell⟩ := T.cell
  obtain ⟨nm, qn, N, bs, bm, sn, sub, ab, col, dd, k0, k1, k2, k3, k5, hC, hbm⟩ := T.cls
  have hcd : clsIn K C = some { name := nm, bases := bs, mro := .ref C :: bm, ns := N, qualname := qn, hasDict := true, slotNames := sn, subclasses := sub, abstract := ab, collection := col, hasDel := false } := by unfold clsIn; rw [hC] <;> rfl
  obtain ⟨hp0, g, d, t, os⟩ := s
  refine ks_wpAt_super_base (env := ksEnv qual scope L fI (.ref cda) cc) hks hkc rfl rfl (X _ _ hfo) rfl hp rfl (X _ _ hcode) rfl hvs hfile T.top ?_
  refine ks_loadName_global hk hks (Calls.loadGlobal_builtin (env := ksEnv qual scope L fI (.ref cda) cc) hg T.sup hbn ((hbb _ (by decide +kernel)).trans (by first | boot_by_name | rfl | kernel_rfl)) ⟨rfl, ?_⟩)
  refine wpAny_loadName_free hk hkc rfl ⟨_, X _ _ hcell, rfl⟩ ?_
  rw [har]
  refine wpAny_loadName_local hk hka hn hself ?_
  refine ks_wpAny_isType_cls (X _ _ hC) rfl ⟨rfl, ?_⟩
  refine ks_wpAny_call_super (X _ _ hC) rfl hx rfl (fun c e => by cases e) (looks_mroIn X T.suC) (fun h1 e1 k1 => ?_)
  -- the method of the built-in base, bound
  have X1 : K.In h1 := X.keeps k1
  have hx1 := k1 _ _ hx
  have I1 : InstAt h1 x (excO C t0) C none := ⟨hx1, rfl, rfl, trivial⟩
  have hI : Looks (model prog w) h1 (isInstance (.ref x) (.type "ValueError")) true := I1.type.andThen (looks_subIn X1 T.veC)
  have hal := T.along
  unfold ks_superIn at hal
  rw [hcd] at hal
  have hxC : x ≠ C := ks_ne X1 I1 hcd
  refine kxs_getMethod kxs_ValueError e1 (looks_opaque X1 T.opq) (l₀ := .ref C :: bm) ?_ rfl X1 hal hI hxC rfl ?_
  · exact fun A Q E s k q => wpAny_bind ((looks_clsIn X1 hcd) A _ E s k (wpAny_pure q))
  have k2 : ∀ b o, h1.get? b = some o → (h1.push (kxs_mw "ValueError.__init__" x)).get? b = some o := fun b o e => Heap.get?_push_of_some _ e
  have k12 : ∀ b o, hp0.get? b = some o → (h1.push (kxs_mw "ValueError.__init__" x)).get? b = some o := fun b o e => k2 b o (k1 b o e)
  have hn2 : (h1.push (kxs_mw "ValueError.__init__" x)).Ns L m := hn.keeps k12
  have hu : (h1.push (kxs_mw "ValueError.__init__" x)).get? h1.objs.size = some (kxs_mw "ValueError.__init__" x) := Heap.get?_push_at rfl rfl
  have hx2 := k2 _ _ hx1
  have hC2 := k12 _ _ (X _ _ hC)
  generalize hh2 : h1.push (kxs_mw "ValueError.__init__" x) = h2 at *
  have hev2 := hev ⟨h2, g, d, t + 1, os⟩ hn2
  rw [he] at hev2 ⊢
  refine kxs_callWith (i := "ValueError.__init__") (x := x) (by show (false || (backTo q4 (starEach es _)).any (·.1)) = false; rw [hpl]; rfl) (PySem.Calls.evalArgs_plain ?_)
  refine wpAny_mono hev2 (fun us s3 hus => ?_) fun _ _ z => z
  obtain ⟨rfl, rfl⟩ := hus
  refine ⟨hu, ?_⟩
  refine wpAny_call (codeAny_of_tree ?_)
  show wpAny _ A.in1 (callAny (.ref h1.objs.size) ⟨us, []⟩) _ _ _
  simp only [callAny]
  refine wpAny_bind (wpAny_load hu ?_)
  simp only [kxs_mw, show (Value.type "method-wrapper" == Value.type "method" || Value.type "method-wrapper" == Value.type "builtin_function_or_method" || Value.type "method-wrapper" == Value.type "method-wrapper") = true by decide, if_true]
  refine KFB.if_so (by decide) ?_
  refine wpAny_bind (check_bound_init F.excBase_ValueError.toExcCallFacts hC2 hx2 rfl ?_)
  refine wpAny_bind (wpAny_pure (wpAny_pure ?_))
  refine ⟨plainId_quiet F.excBase_ValueError.init.plain _, codeAny_builtin F.excBase_ValueError.initEntry ?_⟩
  rw [Around.under_plainId F.excBase_ValueError.init.plain _]
  refine exc_init_tree (cls := .ref C) (t0 := t0) (dv := none) (c2 := .none) (c3 := .none) (b4 := .bool false) hx2 hz fun h3 k3 e3 t3 => ?_
  refine hq h3 h2.objs.size _ (fun b o hb e => k3 b o hb (k12 b o e)) e3 ?_
  exact Nat.le_of_lt (Nat.lt_trans (show hp0.objs.size < h1.objs.size from Heap.lt_size e1) (Nat.lt_trans (Heap.lt_size hu) (Heap.lt_size t3)))

theorem one_size (v : Value) : [v].length ≤ sizeLine := by
  rw [sizeLine_eq]
  exact (by decide : 1 ≤ 16777216)
theorem two_size (v u : Value) : [v, u].length ≤ sizeLine := by
  rw [sizeLine_eq]
  exact (by decide : 2 ≤ 16777216)
/-- a local's value -/
theorem ldX {M : Model} {A : Around} {E : Value → Shared → Prop} {s : Shared} {qual : Str} {scope : Scope} {L a : Addr} {cd : Value} {cc : Addr} {m : Str → Option Value} {x : Str} {pos : Pos} {v : Value} {Q : Value → Shared → Prop} (hn : s.heap.Ns L m) (hv : m x = some v) (h : Q v s)
    (hk : scope.kind = .function) (hl : scope.names.lookup x = some .local) (hd : (x == ("__debug__" : Str)) = false) : wpAny M A (eval (.Name x pos) (ksEnv qual scope L a cd cc)) Q E s := wpAny_Name (wpAny_loadName_local hk hl hn hv h) hd
/-- the names of such an __init__ are told apart -/
def Plain (n : Str) : Prop := n ≠ "self" ∧ n ≠ "super" ∧ n ≠ "__class__" ∧ (n == ("__debug__" : Str)) = false
instance (n : Str) : Decidable (Plain n) := by unfold Plain; infer_instance
theorem look_ne {α : Type} {x y : Str} {k : α} {l : List (Str × α)} (h : y ≠ x) : ((y, k) :: l).lookup x = l.lookup x := by
  rw [List.lookup_cons, show (x == y) = false from by simpa using fun e => h e.symm]
theorem look_eq {α : Type} {x : Str} {k : α} {l : List (Str × α)} : ((x, k) :: l).lookup x = some k := by
  rw [List.lookup_cons, show (x == x) = true from by simp]
theorem err_init1 {qual n1 : Str} {x t0 : Addr} {v : Value} {mb : Str → Option Value} {p1 p2 q0 q1 q2 q3 q4 q5 r1 r2 r3 r4 : Pos} (T : ErrC prog K mg C cda cc) (TI : ErrI K C fI cda cc qual (eA1 n1 p1 p2) [eSup [.Name n1 q3] q0 q1 q2 q4 q5, eSet n1 r1 r2 r3 r4] (eS1 n1)) (hn1 : Plain n1)
    (hba : ∀ (kV doc pm : Value) (an : Option Addr) (ct x v : Value), bindArgs (ksFn "__init__" qual (eA1 n1 p1 p2) [eSup [.Name n1 q3] q0 q1 q2 q4 q5, eSet n1 r1 r2 r3 r4] (eS1 n1) .none kV doc pm an (.ref cda) ct cc) ⟨[x, v], []⟩ = pure [(("self" : Str), x), (n1, v)]) (hsc : ∀ L : Addr, SupCall (ksEnv qual (eS1 n1) L fI (.ref cda) cc) q0 q1 q2 q4 [.Name n1 q3]) (hno : findIn K (.ref C) n1 = some none)
    (X : K.In s.heap) (hg : s.heap.Ns mainGlobals mg) (hbn : s.heap.Ns builtinsNs mb) (hbb : ∀ x : Str, x ≠ "__name__" → mb x = bootBuiltins x) (hlim : s.heap.NoLimit) (hx : s.heap.get? x = some (excO C t0)) (hnx : K.lookup x = none) (hxg : x ≠ mainGlobals ∧ x ≠ builtinsNs) (hroom : A.depth < recursionLimit)
    (hq : ∀ h' tk dx t1, (∀ b o, b ≠ x → s.heap.get? b = some o → h'.get? b = some o) → s.heap.objs.size ≤ dx → dx ≠ x → h'.get? x = some { cls := .ref C, dict := some dx, data := .fields #[.ref t1, .none, .none, .none, .bool false, .none] } →
      h'.Ns1 dx (fun y => if y = n1 then some v else none) → R (.ok (.ret .none)) { s with heap := h', toks := tk }) :
    codeAny (model prog w) A (.call (.ref fI) ⟨[.ref x, v], []⟩) R s := by
  obtain ⟨oc, od, kV, doc, pm, an, ct, osl, ho, hcd⟩ := TI.fn
  obtain ⟨nm, qn, N, bs, bm, sn, sub, ab, col, dd, k0, k1, k2, k3, k5, hC, hbm⟩ := T.cls
  have hcl : clsIn K C = some { name := nm, bases := bs, mro := .ref C :: bm, ns := N, qualname := qn, hasDict := true, slotNames := sn, subclasses := sub, abstract := ab, collection := col, hasDel := false } := by unfold clsIn; rw [hC] <;> rfl
  obtain ⟨d1, d2, d3, d4⟩ := hn1
  have lself : (eS1 n1).names.lookup ("self" : Str) = some .local := look_eq
  have ln1 : (eS1 n1).names.lookup n1 = some .local := by show (_ :: (n1, _) :: _ : List (Str × NameKind)).lookup n1 = _; rw [look_ne (fun e => d1 e.symm)]; exact look_eq
  have lcls : (eS1 n1).names.lookup ("__class__" : Str) = some .free := by
    show ((PySem.Str.ofString "self", _) :: (n1, _) :: (PySem.Str.ofString "__class__", _) :: _ : List (Str × NameKind)).lookup (PySem.Str.ofString "__class__") = _
    rw [look_ne (by decide), look_ne d3]; exact look_eq
  have lsup : (eS1 n1).names.lookup ("super" : Str) = some .globalImplicit := by
    show ((PySem.Str.ofString "self", _) :: (n1, _) :: (PySem.Str.ofString "__class__", _) :: (PySem.Str.ofString "super", _) :: _ : List (Str × NameKind)).lookup (PySem.Str.ofString "super") = _
    rw [look_ne (by decide), look_ne d2, look_ne (by decide)]; exact look_eq
  refine ks_codeAny_call_defAt (fd := ksFn "__init__" qual (eA1 n1 p1 p2) [eSup [.Name n1 q3] q0 q1 q2 q4 q5, eSet n1 r1 r2 r3 r4] (eS1 n1) .none kV doc pm an (.ref cda) ct cc) (binds := [(("self" : Str), .ref x), (n1, v)]) hroom (X _ _ ho) rfl hlim (codeRec_of X hcd) rfl (BindsTo.of_eq (hba kV doc pm an ct (.ref x) v)) ?_ ?_ (fun h₁ hns hk₁ => ?_) rfl rfl rfl
  · intro y hy
    have hy : y ∈ (eS1 n1).names := hy
    simp only [eS1, List.mem_cons, List.not_mem_nil, or_false] at hy
    rcases hy with rfl | rfl | rfl | rfl <;> (intro z; cases z)
  · intro y hy
    simp only [List.mem_cons, List.not_mem_nil, or_false] at hy
    rcases hy with rfl | rfl
    · exact lself
    · exact ln1
  have X₁ : K.In h₁ := X.keeps hk₁
  have hx₁ := hk₁ _ _ hx
  have hxL : s.heap.objs.size ≠ x := Nat.ne_of_gt (Heap.lt_size hx)
  have mself : ([(("self" : Str), Value.ref x), (n1, v)] : List (Str × Value)).reverse.lookup ("self" : Str) = some (.ref x) := by
    show ([(n1, v), (("self" : Str), Value.ref x)] : List (Str × Value)).lookup ("self" : Str) = _
    rw [look_ne d1]; exact look_eq
  have mn1 : ([(("self" : Str), Value.ref x), (n1, v)] : List (Str × Value)).reverse.lookup n1 = some v := look_eq
  show PySem.wpAt _ (A.deeper (ksEnv qual (eS1 n1) s.heap.objs.size fI (.ref cda) cc)) (.func _ (ksEnv qual (eS1 n1) s.heap.objs.size fI (.ref cda) cc)) (execs _ (ksEnv qual (eS1 n1) s.heap.objs.size fI (.ref cda) cc)) _ _ _
  refine ks_wpAt_execs_cons (err_super (m := fun y => ([(("self" : Str), Value.ref x), (n1, v)] : List (Str × Value)).reverse.lookup y) (vs := [v]) T X₁ (hg.keeps hk₁) (hbn.keeps hk₁) hbb (hlim.keeps hk₁) ho rfl rfl hns mself hx₁ rfl lsup lcls lself (one_size v) (fun s' hn' => ?_) (by rfl) (by rfl) (hsc _) (by rfl) ?_)
  · exact PySem.Calls.spliced_cons (ldX hn' mn1 (PySem.Calls.spliced_nil ⟨rfl, rfl⟩) rfl ln1 d4)
  · intro h2 t1 tk2 kk hx2 hsz
    have kx : ∀ b o, s.heap.get? b = some o → b ≠ x → h2.get? b = some o := fun b o e hb => kk b o hb (hk₁ b o e)
    have X₂ : K.In h2 := fun a o e => kk a o (fun z => by rw [z, hnx] at e; cases e) (X₁ a o e)
    have hn2 : h2.Ns s.heap.objs.size (fun y => ([(("self" : Str), Value.ref x), (n1, v)] : List (Str × Value)).reverse.lookup y) := by
      obtain ⟨o, es, ep, e1, e2, e3⟩ := hns
      exact ⟨o, es, ep, kk _ _ hxL e1, e2, e3⟩
    show PySem.wpAt _ _ _ (execs [eSet n1 r1 r2 r3 r4] _) _ _ _
    refine wpAt_of_wpAny (wpAny_execs_cons (plainObj_wpAny_Assign_Attribute (ldX hn2 mn1 (ldX hn2 mself ?_ rfl lself (by decide)) rfl ln1 d4)))
    refine set_plain X₂ (ox := excO C t1) (od := none) ⟨hx2, rfl, rfl, trivial⟩ T.sa ?_
    refine exc_osa X₂ hx2 hcl (show refsVE (.ref C :: bm) = true from hbm) rfl hno (fun h₃ tk₃ dx k₃ dn dne hx₃ hn₃ => ?_)
    refine wpAny_execs_nil (hq h₃ tk₃ dx t1 (fun b o hb e => k₃ b o hb (kx b o e hb)) (Nat.le_trans ?_ dn) dne hx₃ hn₃)
    have := hns.lt
    exact Nat.le_trans (Nat.le_of_lt this) hsz

/-- what lies there when it is made -/
structure ErrMade (h h' : Heap) (e C d : Addr) (m : Str → Option Value) : Prop where
  keep : ∀ b o, h.get? b = some o → h'.get? b = some o
  new : h.objs.size ≤ e
  obj : ∃ oe vs, h'.get? e = some oe ∧ oe.cls = .ref C ∧ oe.dict = some d ∧ oe.data = .fields vs ∧ vs[1]? = some .none
  dbig : h.objs.size ≤ d
  dne : d ≠ e
  ns : h'.Ns1 d m
theorem err_made1 {qual n1 : Str} {v : Value} {mb : Str → Option Value} {p1 p2 q0 q1 q2 q3 q4 q5 r1 r2 r3 r4 : Pos} (T : ErrC prog K mg C cda cc) (TI : ErrI K C fI cda cc qual (eA1 n1 p1 p2) [eSup [.Name n1 q3] q0 q1 q2 q4 q5, eSet n1 r1 r2 r3 r4] (eS1 n1)) (hn1 : Plain n1)
    (hba : ∀ (kV doc pm : Value) (an : Option Addr) (ct x v : Value), bindArgs (ksFn "__init__" qual (eA1 n1 p1 p2) [eSup [.Name n1 q3] q0 q1 q2 q4 q5, eSet n1 r1 r2 r3 r4] (eS1 n1) .none kV doc pm an (.ref cda) ct cc) ⟨[x, v], []⟩ = pure [(("self" : Str), x), (n1, v)]) (hsc : ∀ L : Addr, SupCall (ksEnv qual (eS1 n1) L fI (.ref cda) cc) q0 q1 q2 q4 [.Name n1 q3]) (hno : findIn K (.ref C) n1 = some none)
    (X : K.In s.heap) (hg : s.heap.Ns mainGlobals mg) (hbn : s.heap.Ns builtinsNs mb) (hbb : ∀ x : Str, x ≠ "__name__" → mb x = bootBuiltins x) (hlim : s.heap.NoLimit) (hroom : A.depth + 1 < recursionLimit)
    (hq : ∀ h' tk e d, ErrMade s.heap h' e C d (fun y => if y = n1 then some v else none) → R (.ok (.ret (.ref e))) { s with heap := h', toks := tk }) :
    codeAny (model prog w) A (.call (.ref C) ⟨[v], []⟩) R s := by
  obtain ⟨nm, q, N, bs, bm, sn, sub, ab, col, dd, k0, k1, k2, k3, k5, hC, hbm⟩ := T.cls
  obtain ⟨hp, g, dr, tk, os⟩ := s
  have k : ∀ b o, hp.get? b = some o → ((hp.push (kdv_tup [v])).push (excO C hp.objs.size)).get? b = some o := fun b o e => Heap.get?_push_of_some _ (Heap.get?_push_of_some _ e)
  have hget : ((hp.push (kdv_tup [v])).push (excO C hp.objs.size)).get? (hp.objs.size + 1) = some (excO C hp.objs.size) := by heap_get
  have hnx : K.lookup (hp.objs.size + 1) = none := by
    cases e : K.lookup (hp.objs.size + 1) with
    | none => rfl
    | some o =>
      have z : hp.get? (hp.objs.size + 1) = some o := X _ _ e
      exact absurd (Nat.lt_of_succ_lt (Heap.lt_size z)) (Nat.lt_irrefl _)
  have nsx : ∀ {b : Addr} {m : Str → Option Value}, hp.Ns b m → hp.objs.size + 1 ≠ b := fun hb z => by have := hb.lt; rw [← z] at this; exact absurd (Nat.lt_of_succ_lt this) (Nat.lt_irrefl _)
  refine call_own F.excBase_ValueError (fun X => refsVE_contains X bm hbm) (X _ _ hC) (looks_findIn X TI.iC) (fun self => bind_fn X self TI.tC) (one_size v) ?_
  refine err_init1 (s := ⟨(hp.push (kdv_tup [v])).push (excO C hp.objs.size), g, dr, tk, os⟩) T TI hn1 hba hsc hno (X.keeps k) (hg.keeps k) (hbn.keeps k) hbb (hlim.keeps k) hget hnx ⟨nsx hg, nsx hbn⟩ ?_ fun h' tk' dx t1 k' dn dne hx hns => ?_
  · show A.depth + 1 < recursionLimit
    exact hroom
  · have old : ∀ b o, hp.get? b = some o → h'.get? b = some o := fun b o e => k' b o (Nat.ne_of_lt (Nat.lt_succ_of_lt (Heap.lt_size e))) (k b o e)
    have z : hp.objs.size + 1 + 1 ≤ dx := by
      first
        | (simpa only [Heap.size_push] using dn)
        | exact dn
        | (have q := dn; rw [Heap.size_push, Heap.size_push] at q; exact q)
    exact ⟨rfl, hq h' tk' (hp.objs.size + 1) dx ⟨old, Nat.le_succ _, ⟨_, _, hx, rfl, rfl, rfl, rfl⟩, Nat.le_trans (Nat.le_trans (Nat.le_succ _) (Nat.le_succ _)) z, dne, hns⟩⟩
end
section
variable {X : Cx} {C fI cda cc : Addr}
theorem relO_one {n : Str} {v : V} {v' : Value} (r : RelV v v') (f : Str) : RelO (List.lookup f [(n, v)]) (if f = n then some v' else none) := by
  by_cases h : f = n
  · subst h
    rw [if_pos rfl]
    show RelO (([(f, v)] : List (Str × V)).lookup f) _
    rw [look_eq]; exact r
  · rw [if_neg h]
    rw [look_ne (fun e => h e.symm)]
    trivial
/-- C(e): an error of one field -/
theorem pmk_err1 {x qual n1 : Str} {a : Expr} {ta : TA} {p pos : Pos} {k : Nat} {p1 p2 q0 q1 q2 q3 q4 q5 r1 r2 r3 r4 : Pos} (T : ErrC X.prog X.K X.mg C cda cc) (TI : ErrI X.K C fI cda cc qual (eA1 n1 p1 p2) [eSup [.Name n1 q3] q0 q1 q2 q4 q5, eSet n1 r1 r2 r3 r4] (eS1 n1)) (hn1 : Plain n1)
    (hba : ∀ (kV doc pm : Value) (an : Option Addr) (ct x v : Value), bindArgs (ksFn "__init__" qual (eA1 n1 p1 p2) [eSup [.Name n1 q3] q0 q1 q2 q4 q5, eSet n1 r1 r2 r3 r4] (eS1 n1) .none kV doc pm an (.ref cda) ct cc) ⟨[x, v], []⟩ = pure [(("self" : Str), x), (n1, v)]) (hsc : ∀ L : Addr, SupCall (ksEnv qual (eS1 n1) L fI (.ref cda) cc) q0 q1 q2 q4 [.Name n1 q3]) (hno : findIn X.K (.ref C) n1 = some none)
    (hr : Room k X.A) (hg : Gl X x) (hm : X.mg x = some (.ref C)) (ha : PA X [a] ta) (hdb : (x == ("__debug__" : Str)) = false := by decide)
    (he : starEach (a :: []) X.env = (false, eval a X.env) :: starEach [] X.env := by rfl) (hpl : (backTo pos (starEach [] X.env)).any (·.1) = false := by rfl) :
    PMk X (.Call (.Name x p) [a] [] pos) (tMkF C [n1] ta) := by
  intro pins s σ H Q I h
  refine wpAny_Call_Name_kw (ld_glob I hg hm ?_ hdb)
  refine PySem.W.callWith_K (h₀ := X.base) I.ok.mod.kin T.kC (thn (ha.run pos pins s σ H _ I h) fun us s1 hh => ?_) he hpl
  obtain ⟨vs, H1, I1, r1, hl, q1⟩ := hh
  refine ⟨I1.kIn, ?_⟩
  cases r1 with
  | nil => cases hl
  | cons rv rn =>
    rename_i v v' vs' us'
    cases rn with
    | cons _ _ => cases hl
    | nil =>
      show wpAny _ _ (PySem.call (.ref C) [v']) _ _ _
      have hlim := I1.nolimit
      have hgl : s1.heap.Ns mainGlobals X.mg := I1.ok.mod.glob.keeps I1.bk
      obtain ⟨mb, hb1, hb2⟩ := I1.ok.mod.blt
      have hbn := hb1.keeps I1.bk
      obtain ⟨hp, g, dr, tk, os⟩ := s1
      refine wpAny_call (err_made1 T TI hn1 hba hsc hno I1.kIn hgl hbn hb2 hlim (by have := hr.dp; omega) fun h' tk' e d M => ?_)
      show MkP X pins σ Q (.ref e) ⟨h', g, dr, tk', os⟩
      obtain ⟨oe, fv, hoe, hc, hd, hdat, h1⟩ := M.obj
      have hns := M.ns
      obtain ⟨G', g1, g2⟩ := restrict h' fun b => decide (b ≠ e)
      have gk : ∀ b, b ≠ e → G'.get? b = h'.get? b := fun b hb => g1 b (decide_eq_true hb)
      have ge : G'.get? e = none := g2 e (by simp)
      have old : ∀ b o, hp.get? b = some o → G'.get? b = some o := fun b o q => (gk b (Nat.ne_of_lt (Nat.lt_of_lt_of_le (Heap.lt_size q) M.new))).trans (M.keep b o q)
      have ob : ObjOk X.prog X.w (upd H1 d (.xd [(n1, v)])) G' d (.xd [(n1, v)]) := ⟨_, hns.at (fun o q => (gk d M.dne).trans q), fun f => relO_one rv f⟩
      have J : Inv X pins σ (upd H1 d (.xd [(n1, v)])) ⟨G', g, dr, tk', os⟩ := I1.laid (t' := tk') old M.dbig ob
      refine ⟨e, oe, fv, ⟨G', g, dr, tk', os⟩, _, .ref C, some d, rfl, J, fun b o q => ?_, ge, hoe, ⟨hc, hd⟩, hdat, h1, ?_, rfl, I1.bare, raises_own T.exC T.tyC, q1 d (I1.hok.fresh M.dbig)⟩
      · by_cases hb : b = e
        · have q' : G'.get? b = some o := q
          rw [hb, ge] at q'; cases q'
        · exact (gk b hb).symm.trans q
      · rw [upd_ne (Ne.symm M.dne)]
        exact I1.hok.fresh M.new
end
end Mir
/-! Mir14: the end of a law. -/
namespace Mir
open PySem PySem.Spec PyProof.Rows L2

/-- the script alone is tracked -/
def scrH (K : PySem.W.Frag) (a : Addr) (vs : List Value) (ns : List Int) : Hp := fun b => if b = a ∧ K.lookup a = none then some (.frz { cls := .type "list", data := .seq vs.toArray } (.lst (ns.map V.int))) else none
theorem scrH_some {K : PySem.W.Frag} {a b : Addr} {vs : List Value} {ns : List Int} {u : HO} (h : scrH K a vs ns b = some u) : b = a ∧ K.lookup a = none ∧ u = .frz { cls := .type "list", data := .seq vs.toArray } (.lst (ns.map V.int)) := by
  unfold scrH at h
  by_cases c : b = a ∧ K.lookup a = none
  · rw [if_pos c] at h; cases h; exact ⟨c.1, c.2, rfl⟩
  · rw [if_neg c] at h; cases h
section
variable {P : Program} {w : World} {K : PySem.W.Frag} {mg mb : Str → Option Value} {k : Nat} {fa a : Addr} {fd : FuncData} {x : Str} {T : Cfg} {f : Fn} {s₁ : Shared} {vs : List Value} {ns : List Int}
theorem law_end (hT : T.K = K) (KX : K.In s₁.heap) (hns : s₁.heap.Ns mainGlobals mg) (hb : s₁.heap.Ns builtinsNs mb) (hbb : ∀ x : Str, x ≠ "__name__" → mb x = bootBuiltins x) (hlim : s₁.heap.NoLimit) (hg : s₁.gens = #[])
    (ha : s₁.heap.get? a = some { cls := .type "list", data := .seq vs.toArray }) (hi : IntsAre vs ns) (hl : ns.length ≤ sizeLine) (hr : Room k callerA)
    (F : ∀ base : Heap, K.In base → base.Ns mainGlobals mg → FnG P w K mg base k fa fd [x] (spM T f 1)) (hbind : ∀ (s : Shared) (u : Value), BindsTo s fd ⟨[u], []⟩ [(x, u)])
    (hlaw : ∃ S, f [.scr ns] [] = .ok (.bl true) S) :
    codeAny (model P w) callerA (.call (.ref fa) ⟨[.ref a], []⟩) (fun r s' => r = .ok (.ret (.bool true)) ∧ OldK s₁.heap s'.heap ∧ s'.os = s₁.os ∧ AllBare s'.gens) s₁ := by
  have lv : (ns.map V.int).length = vs.length := (vals_ints hi).length
  -- the script is a list of ints
  have hS : SqL K (scrH K a vs ns) a (ns.map V.int) := by
    cases e : K.lookup a with
    | none => exact .inl (.inr ⟨_, if_pos ⟨rfl, e⟩⟩)
    | some o =>
      have q := KX a o e
      rw [ha] at q; cases q
      exact .inr ⟨_, vs.toArray, _, e, rfl, rfl, rfl, by rw [List.size_toArray, ← lv, List.length_map]; exact hl, by simpa using vals_ints hi⟩
  have hok : HOk P w (scrH K a vs ns) s₁.heap := fun b u z => by
    obtain ⟨rfl, _, rfl⟩ := scrH_some z
    exact ⟨ha, by rw [List.length_map]; exact hl, vs, _, vals_ints hi, ha⟩
  -- the base: all but the script
  have of_base : ∀ {b : Addr} {o : Obj}, s₁.heap.get? b = some o → (b = a → K.lookup a ≠ none) → (hidT s₁.heap (scrH K a vs ns)).get? b = some o := fun {b o} e n => hidT_get e (by
    cases q : scrH K a vs ns b with
    | none => rfl
    | some u => obtain ⟨h1, h2, _⟩ := scrH_some q; exact absurd h2 (n h1))
  have nsK : ∀ {b : Addr} {m : Str → Option Value}, s₁.heap.Ns b m → (hidT s₁.heap (scrH K a vs ns)).Ns b m := fun {b m} ⟨o, es, ep, e, d, r⟩ => ⟨o, es, ep, of_base e (fun z => by subst z; rw [ha] at e; cases e; cases d), d, r⟩
  have hKb : K.In (hidT s₁.heap (scrH K a vs ns)) := fun b o e => of_base (KX b o e) fun z => by subst z; rw [e]; exact fun q => by cases q
  have e0 : Env0 P w K mg (hidT s₁.heap (scrH K a vs ns)) callerA [] s₁ (scrH K a vs ns) :=
    ⟨rfl, ⟨hKb, nsK hns, ⟨mb, nsK hb, hbb⟩, let ⟨mc, h1, h2⟩ := hlim; ⟨mc, nsK h1, h2⟩⟩, fun b o e => of_hidT e, Nat.le_of_eq (hidT_size _ _), trivial, fun b hb => (by cases hb), hok, .of_eq hg⟩
  obtain ⟨S, hS2⟩ := hlaw
  have rl : Rl ⟨T, Z0⟩ ⟨[], []⟩ [] (scrH K a vs ns) ⟨scrH K a vs ns, fun _ => none, [], fun _ => false⟩ :=
    ⟨rfl, fun b u e => .inl ⟨rfl, e⟩, fun b e => (by cases e), fun b o e => (by cases e), fun i s e => (by simp at e), rfl, fun n c b e => (by simp at e), fun i b h => absurd h noOwn, fun n c b e => (by simp at e), fun i j b h => absurd h noOwn, List.nodup_nil⟩
  have hsp : spM T f 1 [.ref a] (scrH K a vs ns) (fun v _ => v = .bl true) fun _ _ _ => False := by
    refine ⟨[.scr ns], [], _, rfl, .cons (.scr (by rw [hT]; exact hS)) .nil, rl, ?_⟩
    rw [hS2]
    intro v H' B' _ _ q
    cases q; rfl
  refine codeAny_mono ((F _ hKb (nsK hns)).run callerA [] s₁ _ ⟨[.ref a], []⟩ [.ref a] [.ref a] _ _ hr rfl e0 (hbind s₁ (.ref a)) (.cons rfl .nil) hsp) fun r s' h => ?_
  rcases r with e | fl
  · obtain ⟨_, _, _, _, _, _, _, _, _, _, _, _, z⟩ := h
    exact z.elim
  · cases fl <;> first | exact False.elim h | skip
    obtain ⟨v, H', os, bare, un, hok', r', q⟩ := h
    have q : v = .bl true := q
    subst q
    have r' := r'
    obtain rfl : _ = Value.bool true := r'
    refine ⟨rfl, OldK.of_keep fun b o e => ?_, os, bare⟩
    cases q : scrH K a vs ns b with
    | none => exact un.keep b o e q (by intro z; cases z) (by simp)
    | some u =>
      obtain ⟨rfl, _, rfl⟩ := scrH_some q
      have z2 := un.frzs b _ _ q
      obtain ⟨e2, _⟩ := hok' b _ z2
      rw [ha] at e; cases e
      exact e2
end
/-- the goal that k_head leaves -/
theorem walk_ofM {l : PySem.W.OpenLaw} {n k : Nat} {q : Program} {loose : List Str} {XP : (Str → Option Value) → Heap → Prop} {YP : World → Heap → Prop} {d : DefRec} {K : Params → PySem.W.Frag} {f : Fn} {x : Str}
    (hn : l.most = some n) (hn2 : n ≤ sizeLine) (hdf : d.params.defaults = []) (hr : Room k callerA) (hY : ∀ (w : World) (h : Heap), YP w h → (K w.params).In h)
    (F : ∀ (w : World) (mg : Str → Option Value) (fa : Addr) (h : Heap), (K w.params).In h → h.Ns mainGlobals mg → mg d.name = some (.ref fa) →
      ∃ (fd : FuncData) (T : Cfg), T.K = K w.params ∧ (∀ (s : Shared) (u : Value), BindsTo s fd ⟨[u], []⟩ [(x, u)]) ∧ ∀ base : Heap, (K w.params).In base → base.Ns mainGlobals mg → FnG l.prog w (K w.params) mg base k fa fd [x] (spM T f 1))
    (hlaw : ∀ ns : List Int, ns.length ≤ n → ∃ S, f [.scr ns] [] = .ok (.bl true) S) :
    PySem.W.WalkO q loose XP YP l.row.toRowW d [] (fun f vs => PySem.call f vs) := by
  refine Att.attach_call hn hdf fun w s₀ s₁ mg mb fa o pm cd doc a vs ns G Y ho hd hcd hmg hobj hints hlen hg => ?_
  have KX := hY w _ Y
  obtain ⟨fd, T, hT, hb, hF⟩ := F w mg fa _ KX G.T.g hmg
  exact law_end hT KX G.T.g G.T.b G.T.builtins G.T.nolimit hg hobj hints (Nat.le_trans hlen hn2) hr hF hb (hlaw ns hlen)
end Mir
/-! Mir15: more new lists; small facts for the printed texts. -/
namespace Mir
open PySem PySem.Spec PyProof.Rows L2

theorem rgV_rep {T : Cfg} {B : Bd} (a b : Int) : RepL T B (rngD a (b - a).toNat) (rgV a b) := by
  unfold rngD rgV
  generalize List.range (b - a).toNat = l
  induction l with
  | nil => exact .nil
  | cons i l ih => exact .cons (.int _) ih
/-- list(range(a, b)) -/
def rng2 (x y : D) : Option Sl := match x, y with
  | .int a, .int b => if -(2 ^ 62) ≤ a ∧ a < 2 ^ 62 ∧ -(2 ^ 62) ≤ b ∧ b < 2 ^ 62 ∧ (b - a).toNat ≤ 2 ^ 24 then some (.ol (rngD a (b - a).toNat)) else none
  | _, _ => none
def liftF (S : MS) : Option Sl → R Sl
  | some s => .ok s S
  | none => .st
def fLR2 (ea eb : Exp) : Frs := fun S => (ea S).bind fun x S1 => (eb S1).bind fun y S2 => liftF S2 (rng2 x y)
def fLR1 (ea : Exp) : Frs := fun S => (ea S).bind fun y S1 => liftF S1 (rng2 (.int 0) y)
section
variable {X : Cx} {T : Su} {a b : Expr} {ea eb : Exp} {p p2 pos pos2 : Pos}
theorem rng2_post {T : Su} {σ : L2.St} {B : Bd} {Q : VK} {S : MS} {x y : D} {v w : V} {H : Hp} (r : Rl T.toZu S σ H B) (q1 : Rep T.toCfg B x v) (q2 : Rep T.toCfg B y w) (h : PostF T σ B Q (liftF S (rng2 x y))) :
    ∃ i j, v = .int i ∧ w = .int j ∧ RgOk i j ∧ ∀ q, H q = none → Q (.ref q) (upd H q (.lst (rgV i j))) := by
  cases q1 <;> first | (cases y <;> exact h.elim) | skip
  rename_i i
  cases q2 <;> first | exact h.elim | skip
  rename_i j
  have h2 : PostF T σ B Q (liftF S (if -(2 ^ 62) ≤ i ∧ i < 2 ^ 62 ∧ -(2 ^ 62) ≤ j ∧ j < 2 ^ 62 ∧ (j - i).toNat ≤ 2 ^ 24 then some (.ol (rngD i (j - i).toNat)) else none)) := h
  by_cases c : -(2 ^ 62) ≤ i ∧ i < 2 ^ 62 ∧ -(2 ^ 62) ≤ j ∧ j < 2 ^ 62 ∧ (j - i).toNat ≤ 2 ^ 24
  · rw [if_pos c] at h2
    exact ⟨i, j, rfl, rfl, c, fun q hq => h2 q _ H B hq r .rfl' rfl ⟨q, _, rfl, upd_same, rgV_rep i j⟩⟩
  · rw [if_neg c] at h2; exact h2.elim
theorem f_lr2 (hc : X.calm = true) (hg : Gl X "list") (hm : X.mg "list" = none) (hg2 : Gl X "range") (hm2 : X.mg "range" = none) (ha : PE X a (TEm T ea)) (hb : PE X b (TEm T eb))
    (na : starEach [a, b] X.env = (false, eval a X.env) :: starEach [b] X.env := by rfl) (nb : starEach [b] X.env = (false, eval b X.env) :: starEach [] X.env := by rfl) (hp : (backTo pos2 (starEach [b] X.env)).any (·.1) = false := by rfl)
    (nl : starEach [Expr.Call (.Name "range" p2) [a, b] [] pos2] X.env = (false, eval (Expr.Call (.Name "range" p2) [a, b] [] pos2) X.env) :: starEach [] X.env := by rfl) :
    PE X (.Call (.Name "list" p) [.Call (.Name "range" p2) [a, b] [] pos2] [] pos) (TFm T (fLR2 ea eb)) := peI (pe_listRg hc hg hm (prg_2 hg2 hm2 ha hb na nb hp) nl) fun σ H Q ⟨S, B, rl, h⟩ =>
  ⟨S, B, rl, PostR.toF h fun x S1 v H1 B1 r1 l1 q1 h1 => ⟨S1, B1, r1, PostR.toF h1 fun y S2 w H2 B2 r2 l2 q2 h2 => rng2_post r2 (q1.le l2) q2 h2⟩⟩
theorem f_lr1 (hc : X.calm = true) (hg : Gl X "list") (hm : X.mg "list" = none) (hg2 : Gl X "range") (hm2 : X.mg "range" = none) (ha : PE X a (TEm T ea)) (na : starEach [a] X.env = (false, eval a X.env) :: starEach [] X.env := by rfl)
    (nl : starEach [Expr.Call (.Name "range" p2) [a] [] pos2] X.env = (false, eval (Expr.Call (.Name "range" p2) [a] [] pos2) X.env) :: starEach [] X.env := by rfl) :
    PE X (.Call (.Name "list" p) [.Call (.Name "range" p2) [a] [] pos2] [] pos) (TFm T (fLR1 ea)) := peI (pe_listRg hc hg hm (prg_1 hg2 hm2 ha na) nl) fun σ H Q ⟨S, B, rl, h⟩ =>
  ⟨S, B, rl, PostR.toF h fun y S1 w H1 B1 r1 l1 q1 h1 => by
    obtain ⟨i, j, e1, e2, k, q⟩ := rng2_post (x := .int 0) r1 (.int 0) q1 h1
    cases e1
    exact ⟨j, e2, k, q⟩⟩
end

/-! ### which clause takes which class -/
theorem exm_of {K : PySem.W.Frag} {C D : Addr} {b : Bool} (h1 : PySem.W.subIn K (.ref D) (.type "BaseException") = some true) (h2 : PySem.W.isClsIn K D = true) (h3 : PySem.W.typeIn K (.ref D) = some (.type "type")) (h4 : PySem.W.subIn K (.ref C) (.ref D) = some b) :
    PySem.W.exmOne K (.ref C) (.ref D) = some b := by
  have e1 : (PySem.W.subIn K (.ref D) (.type "BaseException") == some true) = true := by rw [h1] <;> rfl
  have e2 : ((PySem.W.clsIn K D).isSome && PySem.W.typeIn K (.ref D) == some (.type "type")) = true := by
    have h2' : (PySem.W.clsIn K D).isSome = true := h2
    rw [h2', h3] <;> rfl
  show (if (PySem.W.subIn K (.ref D) (.type "BaseException") == some true) = true then (if ((PySem.W.clsIn K D).isSome && PySem.W.typeIn K (.ref D) == some (.type "type")) = true then PySem.W.subIn K (.ref C) (.ref D) else none) else none) = some b
  rw [if_pos e1, if_pos e2]
  exact h4
theorem isa_nil {K : PySem.W.Frag} {c0 : Value} {isa : Str → Bool} : ∀ (c : Str) (D : Addr), ([] : List (Str × Addr)).lookup c = some D → PySem.W.exmOne K (.ref D) c0 = some (isa c) := fun _ _ h => by cases h
theorem isa_cons {K : PySem.W.Frag} {c0 : Value} {isa : Str → Bool} {l : List (Str × Addr)} {n : Str} {C : Addr} {b : Bool} (h1 : PySem.W.exmOne K (.ref C) c0 = some b) (hb : isa n = b) (h2 : ∀ (c : Str) (D : Addr), l.lookup c = some D → PySem.W.exmOne K (.ref D) c0 = some (isa c)) :
    ∀ (c : Str) (D : Addr), ((n, C) :: l).lookup c = some D → PySem.W.exmOne K (.ref D) c0 = some (isa c) := fun c D h => by
  rw [List.lookup_cons] at h
  cases e : c == n with
  | true =>
    rw [e] at h
    have e : c = n := by simpa using e
    cases h
    rw [e, hb]; exact h1
  | false => rw [e] at h; exact h2 c D h
theorem FnG.none {P : Program} {w : World} {K : PySem.W.Frag} {mg : Str → Option Value} {base : Heap} {k : Nat} {f : Addr} {fd : FuncData} {ps : List Str} {n : Nat} {T : Cfg} (hn : ps.length = n) : FnG P w K mg base k f fd ps (spM T (fun _ _ => .st) n) :=
  ⟨fun vs H Q E ⟨ds, st, B, hl, q, _⟩ => by rw [← q.length, hn]; exact hl, fun _ _ _ _ _ _ _ _ _ _ _ _ _ _ ⟨_, _, _, _, _, _, h⟩ => h.elim⟩
theorem fbor_of {T : Su} {is : List Nat} {f : Frs} {σ : L2.St} {H : Hp} {Q : VK} (h : TFm T (fBor is f) σ H Q) : TFm T f σ H Q := by
  obtain ⟨S, B, rl, h⟩ := h
  refine ⟨_, _, rl.hide (is := is), ?_⟩
  unfold fBor at h
  cases e1 : f (S.hide is) with
  | st => rw [e1] at h; exact h.elim
  | ex _ _ _ => rw [e1] at h; exact h.elim
  | ok s S1 =>
    rw [e1] at h
    cases s with
    | un => exact h.elim
    | va _ => exact h.elim
    | od _ _ => exact h.elim
    | oi _ _ => exact h.elim
    | xc _ _ => exact h.elim
    | ol ds =>
      have h' : PostF T σ B Q (if D.flats ds = true then .ok (.ol ds) S else .st) := h
      by_cases c : D.flats ds = true
      · rw [if_pos c] at h'
        intro p o H' B1 hp r1 l1 lv q1
        obtain ⟨r2, l2, tp⟩ := rl.show r1 l1
        obtain ⟨a, xs, ea, k, q⟩ := q1
        exact h' p o H' _ hp r2 l2 rfl ⟨a, xs, ea, k, flats_rep tp c q⟩
      · rw [if_neg c] at h'; exact h'.elim
section
variable {X : Cx} {T : Su} {elt tg iter : Expr} {ifs : List Expr} {scope : Scope} {own : List (Str × Nat)} {is : List Nat} {pos : Pos} {its : Exps} {g : Tgt} {t : Tst} {e : Exp}
theorem y_setLcB {i : Nat} {y : Str} {py spos : Pos} (hc : X.calm = true) (hN : X.N.Nodup) (hy : X.N[i]? = some y) (hyl : X.env.scope.names.lookup y = some .local)
    (hsw : swapsWith (.ListComp elt [⟨tg, iter, ifs, 0⟩] scope pos) (some (.Name y py)) spos.line X.env = pure true) (hi : PI X tg iter (TIm T its)) (ok : BlkOk X.N X.env.scope scope own)
    (hg : ∀ (s : Shared) (H : Hp) (C : Addr) (cl : List (Str × Addr)) (fp : List Addr), PG (X.blk s H scope (compEnvC scope cl C X.env) fp) tg (TWm T.blk (own.map (·.2)) g)) (ht : ∀ (s : Shared) (H : Hp) (C : Addr) (cl : List (Str × Addr)) (fp : List Addr), PTs (X.blk s H scope (compEnvC scope cl C X.env) fp) ifs (TTm T.blk t))
    (he : ∀ (s : Shared) (H : Hp) (C : Addr) (cl : List (Str × Addr)) (fp : List Addr), PE (X.blk s H scope (compEnvC scope cl C X.env) fp) elt (TEm T.blk e)) (hs : ∀ x, foldedSetIterable iter X.env x = pure x := by intro _; rfl) :
    PS X (.Assign [.Name y py] (.ListComp elt [⟨tg, iter, ifs, 0⟩] scope pos) spos) (TSm T (sOwn i (fBor is (fLc (own.map (·.2)) its g t e)))) :=
  psI (ps_setLc hc hN hy hyl hsw hi ok hg ht he hs) fun D σ H h => lc_of (fbor_of (own_of h))
end
theorem g_repr {T : Cfg} : Bi T (rRepr T.K) (one reprO) := by
  apply bi_one
  intro Z S σ H B x d v Q rl q e k
  unfold reprO at e
  split at e
  · rename_i c
    obtain ⟨c1, c2, c3, c4, c5⟩ := c
    cases e
    exact ⟨v, _, rfl, Rep.dp rl q c1, c2, c3, c4, c5, k _ H B rl .rfl' (.str _)⟩
  · cases e
theorem u64 {k : Nat} {A : Around} (r : Room k A) : A.units + 64 < cLine := by have := r.un; omega
theorem u1 {k : Nat} {A : Around} (r : Room k A) : A.units + 1 < cLine := by have := r.un; omega
theorem u62 {k : Nat} {A : Around} (r : Room k A) : A.units + 62 < cLine := by have := r.un; omega
theorem u65 {k : Nat} {A : Around} (r : Room k A) : A.units + 65 < cLine := by have := r.un; omega
end Mir
/-! Pl1: how mirrors run, in plain Lean. -/
namespace Mir
open PySem PySem.Spec PyProof.Rows L2

@[simp] theorem bind_ok {α β : Type} (a : α) (S : MS) (f : α → MS → R β) : (R.ok a S).bind f = f a S := rfl
@[simp] theorem bind_ex {α β : Type} (c : Str) (fs : List (Str × D)) (S : MS) (f : α → MS → R β) : (R.ex c fs S : R α).bind f = .ex c fs S := rfl
@[simp] theorem put_eq (l : List Sl) (st : List Cl) (i : Nat) (s : Sl) : (⟨l, st⟩ : MS).put i s = ⟨l.set i s, st⟩ := rfl
@[simp] theorem eVar_eq (i : Nat) (l : List Sl) (st : List Cl) : eVar i ⟨l, st⟩ = match l[i]? with
  | some (.va d) => .ok d ⟨l, st⟩
  | some (.ol ds) => .ok (.lst ds) ⟨l.set i (.va (.lst ds)), st⟩
  | some (.od t kvs) => .ok (.dic t kvs) ⟨l.set i (.va (.dic t kvs)), st⟩
  | some (.oi c fs) => .ok (.ins c fs) ⟨l.set i (.va (.ins c fs)), st⟩
  | _ => .st := rfl
@[simp] theorem eC_eq (d : D) (S : MS) : eC d S = .ok d S := rfl
@[simp] theorem liftO_some (S : MS) (d : D) : liftO S (some d) = .ok d S := rfl
@[simp] theorem eBin_eq (g : D → D → Option D) (a b : Exp) (S : MS) : eBin g a b S = (a S).bind fun x S1 => (b S1).bind fun y S2 => liftO S2 (g x y) := rfl
@[simp] theorem eUn_eq (g : D → Option D) (a : Exp) (S : MS) : eUn g a S = (a S).bind fun x S1 => liftO S1 (g x) := rfl
@[simp] theorem eB_eq (g : List D → Option D) (as : Exps) (S : MS) : eB g as S = (as S).bind fun xs S1 => liftO S1 (g xs) := rfl
@[simp] theorem aNil_eq (S : MS) : aNil S = .ok [] S := rfl
@[simp] theorem aCons_eq (a : Exp) (as : Exps) (S : MS) : aCons a as S = (a S).bind fun x S1 => (as S1).bind fun xs S2 => .ok (x :: xs) S2 := rfl
@[simp] theorem eTup_eq (as : Exps) (S : MS) : eTup as S = (as S).bind fun xs S1 => if xs.length ≤ sizeLine then .ok (.tup xs) S1 else .st := rfl
@[simp] theorem eLst_eq (as : Exps) (S : MS) : eLst as S = (as S).bind fun xs S1 => if xs.length ≤ sizeLine then .ok (.lst xs) S1 else .st := rfl
@[simp] theorem eCall_eq (n : Nat) (f : Fn) (as : Exps) (S : MS) : eCall n f as S = (as S).bind fun ds S1 => if ds.length = n then callM f ds S1 else .st := rfl
theorem callM_ok {f : Fn} {ds : List D} {l : List Sl} {st st' : List Cl} {d : D} (h : f ds st = .ok d ⟨[], st'⟩) : callM f ds ⟨l, st⟩ = .ok d ⟨l, st'⟩ := by
  unfold callM; rw [show (⟨l, st⟩ : MS).sto = st from rfl, h]
@[simp] theorem tOf_eq (e : Exp) (S : MS) : tOf e S = (e S).bind fun d S1 => match d with | .bl b => .ok b S1 | _ => .st := rfl
@[simp] theorem tAndM_eq (a b : Tst) (S : MS) : tAndM a b S = (a S).bind fun x S1 => if x = true then b S1 else .ok false S1 := rfl
@[simp] theorem tOrM_eq (a b : Tst) (S : MS) : tOrM a b S = (a S).bind fun x S1 => if x = true then .ok true S1 else b S1 := rfl
@[simp] theorem tNotM_eq (a : Tst) (S : MS) : tNotM a S = (a S).bind fun x S1 => .ok (!x) S1 := rfl
@[simp] theorem eAnd_eq (a b : Exp) (S : MS) : eAnd a b S = (a S).bind fun d S1 => match d with | .bl true => b S1 | .bl false => .ok (.bl false) S1 | _ => .st := rfl
@[simp] theorem eOr_eq (a b : Exp) (S : MS) : eOr a b S = (a S).bind fun d S1 => match d with | .bl true => .ok (.bl true) S1 | .bl false => b S1 | _ => .st := rfl
@[simp] theorem eNot_eq (a : Exp) (S : MS) : eNot a S = (a S).bind fun d S1 => match d with | .bl x => .ok (.bl (!x)) S1 | _ => .st := rfl
@[simp] theorem eIf_eq (t : Tst) (a b : Exp) (S : MS) : eIf t a b S = (t S).bind fun x S1 => if x = true then a S1 else b S1 := rfl
@[simp] theorem sSeq_eq (a b : Stm) (S : MS) : sSeq a b S = (a S).bind fun f S1 => match f with | .nx => b S1 | f => .ok f S1 := rfl
@[simp] theorem sRet_eq (e : Exp) (S : MS) : sRet e S = (e S).bind fun d S1 => .ok (.rt d) S1 := rfl
@[simp] theorem sIf_eq (t : Tst) (a b : Stm) (S : MS) : sIf t a b S = (t S).bind fun x S1 => if x = true then a S1 else b S1 := rfl
@[simp] theorem sNil_eq (S : MS) : sNil S = .ok .nx S := rfl
@[simp] theorem sExpr_eq (e : Exp) (S : MS) : sExpr e S = (e S).bind fun _ S1 => .ok .nx S1 := rfl
@[simp] theorem sSet_eq (i : Nat) (e : Exp) (S : MS) : sSet i e S = (e S).bind fun d S1 => if i < S1.env.length then .ok .nx (S1.put i (.va d)) else .st := rfl
@[simp] theorem sOwn_eq (i : Nat) (f : Frs) (S : MS) : sOwn i f S = (f S).bind fun s S1 => if i < S1.env.length then .ok .nx (S1.put i s) else .st := rfl
@[simp] theorem sAsg_eq (g : Tgt) (e : Exp) (S : MS) : sAsg g e S = (e S).bind fun d S1 => liftG (g d S1) := rfl
@[simp] theorem liftG_some (S : MS) : liftG (some S) = .ok .nx S := rfl
@[simp] theorem gNm_eq (i : Nat) (d : D) (S : MS) : gNm i d S = if i < S.env.length then some (S.put i (.va d)) else none := rfl
@[simp] theorem gTp_eq (n : Nat) (gs : Tgts) (ds : List D) (S : MS) : gTp n gs (.tup ds) S = if ds.length = n then gs ds S else none := rfl
@[simp] theorem gsCons_eq (g : Tgt) (gs : Tgts) (d : D) (ds : List D) (S : MS) : gsCons g gs (d :: ds) S = (g d S).bind fun S1 => gs ds S1 := rfl
@[simp] theorem gsNil_eq (S : MS) : gsNil [] S = some S := rfl
@[simp] theorem sPar2_eq (i j : Nat) (as : Exps) (S : MS) : sPar2 i j as S = (as S).bind fun ds S1 => match ds with
  | [a, b] => if i < S1.env.length ∧ j < S1.env.length then .ok .nx ((S1.put i (.va a)).put j (.va b)) else .st
  | _ => .st := rfl
@[simp] theorem eFr_eq (f : Frs) (S : MS) : eFr f S = (f S).bind fun s S1 => match s with | .ol ds => .ok (.lst ds) S1 | .od t kvs => .ok (.dic t kvs) S1 | _ => .st := rfl
@[simp] theorem fLst_eq (as : Exps) (S : MS) : fLst as S = (as S).bind fun xs S1 => if xs.length ≤ sizeLine then .ok (.ol xs) S1 else .st := rfl
@[simp] theorem eCel_eq (f : Frs) (S : MS) : eCel f S = (f S).bind fun s S1 => match s.cl with | some c => .ok (.cel S1.sto.length) ⟨S1.env, S1.sto ++ [c]⟩ | none => .st := rfl
@[simp] theorem cl_ol (ds : List D) : (Sl.ol ds).cl = some (.l ds) := rfl
@[simp] theorem sFor_eq (its : Exps) (g : Tgt) (b : Stm) (S : MS) : sFor its g b S = (its S).bind fun ds S1 => forL g b ds S1 := rfl
@[simp] theorem iSeq_eq (e : Exp) (S : MS) : iSeq e S = (e S).bind fun d S1 => liftL S1 (iSeqD d) := rfl
@[simp] theorem liftL_some (S : MS) (ds : List D) : liftL S (some ds) = .ok ds S := rfl
@[simp] theorem iSeqD_l (ds : List D) : iSeqD (.lst ds) = some ds := rfl
@[simp] theorem iSeqD_t (ds : List D) : iSeqD (.tup ds) = some ds := rfl
theorem p62 : (2 : Int) ^ 62 = 4611686018427387904 := by decide
theorem range1 {as : Exps} {S S1 : MS} {j : Int} (h : as S = .ok [.int j] S1) (h1 : -1000000000000 ≤ j) (h2 : j ≤ 1000000000000) : iRange1 as S = .ok (rngD 0 j.toNat) S1 := by
  unfold iRange1
  rw [h, bind_ok]
  show (if -(2 ^ 62) ≤ j ∧ j < 2 ^ 62 then R.ok (rngD 0 j.toNat) S1 else .st) = _
  rw [if_pos (by rw [p62]; omega)]
theorem range2 {as : Exps} {S S1 : MS} {i j : Int} (h : as S = .ok [.int i, .int j] S1) (h1 : -1000000000000 ≤ i) (h2 : i ≤ 1000000000000) (h3 : -1000000000000 ≤ j) (h4 : j ≤ 1000000000000) : iRange2 as S = .ok (rngD i (j - i).toNat) S1 := by
  unfold iRange2
  rw [h, bind_ok]
  show (if -(2 ^ 62) ≤ i ∧ i < 2 ^ 62 ∧ -(2 ^ 62) ≤ j ∧ j < 2 ^ 62 then R.ok (rngD i (j - i).toNat) S1 else .st) = _
  rw [if_pos (by rw [p62]; omega)]
@[simp] theorem len_line {n : Nat} : (n ≤ sizeLine) = (n ≤ 16777216) := by rw [sizeLine_eq]
/-- a body's end as a call's -/
def fin : R Fl → R D
  | .ok (.rt d) S => .ok d ⟨[], S.sto⟩
  | .ok .nx S => .ok .non ⟨[], S.sto⟩
  | .ok _ _ => .st
  | .ex c fs S => .ex c fs ⟨[], S.sto⟩
  | .st => .st
@[simp] theorem fin_rt (d : D) (S : MS) : fin (.ok (.rt d) S) = .ok d ⟨[], S.sto⟩ := rfl
@[simp] theorem fin_ex (c : Str) (fs : List (Str × D)) (S : MS) : fin (.ex c fs S) = .ex c fs ⟨[], S.sto⟩ := rfl
theorem fnM_eq (n : Nat) (m : Stm) (ds : List D) (st : List Cl) : fnM n m ds st = fin (m ⟨ds.map Sl.va ++ List.replicate (n - ds.length) .un, st⟩) := by
  unfold fnM fin
  cases m ⟨ds.map Sl.va ++ List.replicate (n - ds.length) .un, st⟩ with
  | ok fl S => cases fl <;> rfl
  | ex c fs S => rfl
  | st => rfl
theorem seq_nx {a b : Stm} {S S1 : MS} (h : a S = .ok .nx S1) : sSeq a b S = b S1 := by
  show (a S).bind _ = _
  rw [h]; rfl
theorem seq_rt {a b : Stm} {S S1 : MS} {d : D} (h : a S = .ok (.rt d) S1) : sSeq a b S = .ok (.rt d) S1 := by
  show (a S).bind _ = _
  rw [h]; rfl
theorem atI_nat {α : Type} (xs : List α) (k : Nat) : atI xs (k : Int) = xs[k]? := by
  unfold atI ixN
  rw [if_pos (Int.natCast_nonneg k)]
  by_cases h : k < xs.length
  · rw [if_pos (by omega)]; rfl
  · rw [if_neg (by omega), List.getElem?_eq_none (by omega)]; rfl
/-- a target name and a pure test, a pure item: what a comprehension makes -/
theorem lc_pure {k : Nat} {t : Tst} {e : Exp} {l : List Sl} {st : List Cl} (p : D → Bool) (f : D → D) : ∀ (ds : List D) (acc : List D), k < l.length → wipeL l [k] = l →
    (∀ d ∈ ds, t ⟨l.set k (.va d), st⟩ = .ok (p d) ⟨l.set k (.va d), st⟩) → (∀ d ∈ ds, p d = true → e ⟨l.set k (.va d), st⟩ = .ok (f d) ⟨l.set k (.va d), st⟩) → acc.length + ds.length ≤ sizeLine →
    lcL [k] (gNm k) t e ds ⟨l, st⟩ acc = .ok (acc ++ (ds.filter p).map f) ⟨l, st⟩
  | [], acc, _, _, _, _, _ => by simp [lcL]
  | d :: ds, acc, hk, hw, ht, he, hz => by
    have w : (⟨l.set k (.va d), st⟩ : MS).wipe [k] = ⟨l, st⟩ := by
      show (⟨(l.set k (.va d)).set k .un, st⟩ : MS) = ⟨l, st⟩
      rw [List.set_set]
      exact congrArg (fun l => (⟨l, st⟩ : MS)) hw
    have ht1 := ht d List.mem_cons_self
    rw [List.length_cons] at hz
    unfold lcL
    simp only [gNm_eq, if_pos (show k < (⟨l, st⟩ : MS).env.length from hk), put_eq, ht1]
    cases hp : p d with
    | false =>
      simp only
      rw [w, lc_pure p f ds acc hk hw (fun d h => ht d (List.mem_cons_of_mem _ h)) (fun d h => he d (List.mem_cons_of_mem _ h)) (by omega)]
      simp [List.filter_cons, hp]
    | true =>
      simp only [he d List.mem_cons_self hp]
      rw [if_pos (by omega), w, lc_pure p f ds (acc ++ [f d]) hk hw (fun d h => ht d (List.mem_cons_of_mem _ h)) (fun d h => he d (List.mem_cons_of_mem _ h)) (by rw [List.length_append, List.length_singleton]; omega)]
      simp [List.filter_cons, hp]
theorem fLc_pure {k : Nat} {its : Exps} {t : Tst} {e : Exp} {l : List Sl} {st st1 : List Cl} {S : MS} {ds : List D} (p : D → Bool) (f : D → D) (hi : its S = .ok ds ⟨l, st⟩) (hk : k < l.length) (hd : ((l[k]?).getD .un).dead = true)
    (ht : ∀ d ∈ ds, t ⟨l.set k (.va d), st⟩ = .ok (p d) ⟨l.set k (.va d), st⟩) (he : ∀ d ∈ ds, p d = true → e ⟨l.set k (.va d), st⟩ = .ok (f d) ⟨l.set k (.va d), st⟩) (hz : ds.length ≤ sizeLine) :
    fLc [k] its (gNm k) t e S = .ok (.ol ((ds.filter p).map f)) ⟨l, st⟩ := by
  unfold fLc
  rw [hi, bind_ok]
  have h1 : ([k].all fun i => (((⟨l, st⟩ : MS).env[i]?).getD .un).dead) = true := by simpa using hd
  rw [if_pos h1]
  have e1 : (⟨l, st⟩ : MS).wipe [k] = ⟨l.set k .un, st⟩ := rfl
  have e2 : ∀ d : D, (l.set k Sl.un).set k (.va d) = l.set k (.va d) := fun d => List.set_set ..
  rw [e1, lc_pure p f ds [] (by simpa using hk) (by show (l.set k Sl.un).set k .un = _; rw [List.set_set]) (fun d h => by rw [e2]; exact ht d h) (fun d h hp => by rw [e2]; exact he d h hp) (by simpa using hz)]
  simp only [bind_ok, List.nil_append]
  have e3 : (⟨l.set k Sl.un, st⟩ : MS).back ⟨l, st⟩ [k] = ⟨l, st⟩ := by
    show (⟨(l.set k Sl.un).set k ((l[k]?).getD .un), st⟩ : MS) = ⟨l, st⟩
    rw [List.set_set, List.getElem?_eq_getElem hk]
    show (⟨l.set k l[k], st⟩ : MS) = _
    rw [List.set_getElem_self]
  rw [e3]
/-- a for whose turns go on -/
theorem for_nx {g : Tgt} {b : Stm} (Inv : List D → MS → Prop) : ∀ (ds : List D) (S : MS), Inv ds S → (∀ d r S, Inv (d :: r) S → ∃ S1 S2, g d S = some S1 ∧ b S1 = .ok .nx S2 ∧ Inv r S2) → ∃ S2, forL g b ds S = .ok .nx S2 ∧ Inv [] S2
  | [], S, h, _ => ⟨S, rfl, h⟩
  | d :: ds, S, h, k => by
    obtain ⟨S1, S2, e1, e2, h2⟩ := k d ds S h
    obtain ⟨S3, e3, h3⟩ := for_nx Inv ds S2 h2 k
    refine ⟨S3, ?_, h3⟩
    unfold forL
    rw [e1]
    simp only [e2]
    exact e3
/-- the same by the turn -/
theorem for_ix {g : Tgt} {b : Stm} (Inv : Nat → MS → Prop) (ds : List D) {S : MS} (h : Inv 0 S) (k : ∀ i d S, ds[i]? = some d → Inv i S → ∃ S1 S2, g d S = some S1 ∧ b S1 = .ok .nx S2 ∧ Inv (i + 1) S2) : ∃ S2, forL g b ds S = .ok .nx S2 ∧ Inv ds.length S2 := by
  obtain ⟨S2, e, h2⟩ := for_nx (g := g) (b := b) (fun r S => ∃ i, r = ds.drop i ∧ i ≤ ds.length ∧ Inv i S) ds S ⟨0, rfl, Nat.zero_le _, h⟩ fun d r S ⟨i, e, hi, h⟩ => by
    have hl : i < ds.length := by
      rcases Nat.lt_or_ge i ds.length with h | h
      · exact h
      · rw [List.drop_eq_nil_of_le h] at e; cases e
    rw [List.drop_eq_getElem_cons hl] at e
    cases e
    obtain ⟨S1, S2, e1, e2, h2⟩ := k i ds[i] S (List.getElem?_eq_getElem hl) h
    exact ⟨S1, S2, e1, e2, i + 1, rfl, hl, h2⟩
  obtain ⟨i, e1, hi, h3⟩ := h2
  have : i = ds.length := by
    have := congrArg List.length e1
    rw [List.length_drop] at this
    simp at this
    omega
  exact ⟨S2, e, this ▸ h3⟩
theorem rngD_get {lo : Int} {n i : Nat} {d : D} (h : (rngD lo n)[i]? = some d) : i < n ∧ d = .int (lo + (i : Nat)) := by
  unfold rngD at h
  rw [List.getElem?_map] at h
  obtain ⟨c, ec, ed⟩ := Option.map_eq_some_iff.mp h
  have hi : i < n := by
    have := (List.getElem?_eq_some_iff.mp ec).1
    simpa using this
  rw [List.getElem?_range hi] at ec
  cases ec
  exact ⟨hi, ed.symm⟩
@[simp] theorem rngD_length (lo : Int) (n : Nat) : (rngD lo n).length = n := by simp [rngD]
@[simp] theorem lt_ii (i j : Int) : ltO (.int i) (.int j) = some (.bl (decide (i < j))) := rfl
@[simp] theorem le_ii (i j : Int) : leO (.int i) (.int j) = some (.bl (decide (i ≤ j))) := rfl
@[simp] theorem gt_ii (i j : Int) : gtO (.int i) (.int j) = some (.bl (decide (j < i))) := rfl
@[simp] theorem ge_ii (i j : Int) : geO (.int i) (.int j) = some (.bl (decide (j ≤ i))) := rfl
@[simp] theorem add_ii (i j : Int) : addO (.int i) (.int j) = some (.int (i + j)) := rfl
@[simp] theorem sub_ii (i j : Int) : subO (.int i) (.int j) = some (.int (i - j)) := rfl
@[simp] theorem neg_i (i : Int) : negO (.int i) = some (.int (-i)) := rfl
@[simp] theorem toInt_i (i : Int) : toIntO (.int i) = some (.int i) := rfl
@[simp] theorem one_1 (g : D → Option D) (d : D) : one g [d] = g d := rfl
@[simp] theorem oneTwo_1 (g : D → Option D) (h : D → D → Option D) (d : D) : oneTwo g h [d] = g d := rfl
@[simp] theorem oneTwo_2 (g : D → Option D) (h : D → D → Option D) (d e : D) : oneTwo g h [d, e] = h d e := rfl
theorem mul_ii {i j : Int} (h : CMul i j) : mulO (.int i) (.int j) = some (.int (i * j)) := if_pos h
theorem fdiv_ii {i j : Int} (h1 : 0 < j) (h2 : j < 1073741824) : fdivO (.int i) (.int j) = some (.int (i / j)) := if_pos ⟨h1, h2⟩
theorem mod_ii {i j : Int} (h1 : 0 < j) : modO (.int i) (.int j) = some (.int (i % j)) := if_pos h1
@[simp] theorem eq_ii (i j : Int) : eqO (.int i) (.int j) = some (.bl (decide (i = j))) := by
  show some (D.bl (PyData.eqv (.int i) (.int j))) = _
  rw [show PyData.eqv (.int i) (.int j) = (i == j) from by simp [PyData.eqv]]
  congr 2
@[simp] theorem ne_ii (i j : Int) : neO (.int i) (.int j) = some (.bl (!decide (i = j))) := by
  show some (D.bl (!PyData.eqv (.int i) (.int j))) = _
  rw [show PyData.eqv (.int i) (.int j) = (i == j) from by simp [PyData.eqv]]
  congr 2
end Mir
namespace Prog
open PySem PySem.Spec PyProof.Rows L2 Mir
def top (i : Nat) : Stmt := PySem.Challenge.pw_coinspaidout_k10_whole_fractions.main.body.getD i (.Pass ⟨0, 0, 0, 0⟩)
def isa_BadNumber (c : Str) : Bool := decide (c ∈ (["BadNumber"] : List Str))
/-! ### the mirrors -/
def b_is_whole : Stm :=
  (sRet (eAnd (eUn (isiG "int") (eVar 0)) (eNot (eUn (isiG "bool") (eVar 0)))))
def m_is_whole : Fn := fnM 1 b_is_whole
def b_is_row : Stm :=
  (sRet (eUn (isiG2 "list" "tuple") (eVar 0)))
def m_is_row : Fn := fnM 1 b_is_row
def b_reduced : Stm :=
  (sSeq (sPar2 2 3 (aCons (eB (one absO) (aCons (eVar 0) aNil)) (aCons (eVar 1) aNil)))
  (sSeq (sWhile 200 (tOf (eBin gtO (eVar 3) (eC (.int 0)))) (sPar2 2 3 (aCons (eVar 3) (aCons (eBin modO (eVar 2) (eVar 3)) aNil))))
  (sRet (eIf (tOf (eBin gtO (eVar 2) (eC (.int 0)))) (eTup (aCons (eBin fdivO (eVar 0) (eVar 2)) (aCons (eBin fdivO (eVar 1) (eVar 2)) aNil))) (eTup (aCons (eC (.int 0)) (aCons (eC (.int 1)) aNil)))))))
def m_reduced : Fn := fnM 4 b_reduced
def b_is_fraction : Stm :=
  (sSeq (sIf (tOrM (tNotM (tOf (eCall 1 m_is_row (aCons (eVar 0) aNil)))) (tOrM (tOf (eBin neO (eB (one lenO) (aCons (eVar 0) aNil)) (eC (.int 2)))) (tOrM (tNotM (tOf (eCall 1 m_is_whole (aCons (eBin ixO (eVar 0) (eC (.int 0))) aNil)))) (tOrM (tNotM (tOf (eCall 1 m_is_whole (aCons (eBin ixO (eVar 0) (eC (.int 1))) aNil)))) (tOf (eBin ltO (eBin ixO (eVar 0) (eC (.int 1))) (eC (.int 1)))))))) (sRet (eC (.bl false))) sNil)
  (sRet (eBin eqO (eCall 2 m_reduced (aCons (eBin ixO (eVar 0) (eC (.int 0))) (aCons (eBin ixO (eVar 0) (eC (.int 1))) aNil))) (eTup (aCons (eBin ixO (eVar 0) (eC (.int 0))) (aCons (eBin ixO (eVar 0) (eC (.int 1))) aNil))))))
def m_is_fraction : Fn := fnM 1 b_is_fraction
def b_want_fraction : Stm :=
  (sSeq (sIf (tNotM (tOf (eCall 1 m_is_fraction (aCons (eVar 0) aNil)))) (sRaise (mkF "BadNumber" ["value"] (aCons (eVar 0) aNil))) sNil)
  (sRet (eB (one tupleO) (aCons (eVar 0) aNil))))
def m_want_fraction : Fn := fnM 1 b_want_fraction
def b_plus : Stm :=
  (sRet (eCall 2 m_reduced (aCons (eBin addO (eBin mulO (eBin ixO (eVar 0) (eC (.int 0))) (eBin ixO (eVar 1) (eC (.int 1)))) (eBin mulO (eBin ixO (eVar 1) (eC (.int 0))) (eBin ixO (eVar 0) (eC (.int 1))))) (aCons (eBin mulO (eBin ixO (eVar 0) (eC (.int 1))) (eBin ixO (eVar 1) (eC (.int 1)))) aNil))))
def m_plus : Fn := fnM 2 b_plus
def b_minus : Stm :=
  (sRet (eCall 2 m_reduced (aCons (eBin subO (eBin mulO (eBin ixO (eVar 0) (eC (.int 0))) (eBin ixO (eVar 1) (eC (.int 1)))) (eBin mulO (eBin ixO (eVar 1) (eC (.int 0))) (eBin ixO (eVar 0) (eC (.int 1))))) (aCons (eBin mulO (eBin ixO (eVar 0) (eC (.int 1))) (eBin ixO (eVar 1) (eC (.int 1)))) aNil))))
def m_minus : Fn := fnM 2 b_minus
def b_times : Stm :=
  (sRet (eCall 2 m_reduced (aCons (eBin mulO (eBin ixO (eVar 0) (eC (.int 0))) (eBin ixO (eVar 1) (eC (.int 0)))) (aCons (eBin mulO (eBin ixO (eVar 0) (eC (.int 1))) (eBin ixO (eVar 1) (eC (.int 1)))) aNil))))
def m_times : Fn := fnM 2 b_times
def b_over : Stm :=
  (sRet (eCall 2 m_reduced (aCons (eBin mulO (eBin ixO (eVar 0) (eC (.int 0))) (eBin ixO (eVar 1) (eC (.int 1)))) (aCons (eBin mulO (eBin ixO (eVar 0) (eC (.int 1))) (eBin ixO (eVar 1) (eC (.int 0)))) aNil))))
def m_over : Fn := fnM 2 b_over
def b_is_less : Stm :=
  (sRet (eBin ltO (eBin mulO (eBin ixO (eVar 0) (eC (.int 0))) (eBin ixO (eVar 1) (eC (.int 1)))) (eBin mulO (eBin ixO (eVar 1) (eC (.int 0))) (eBin ixO (eVar 0) (eC (.int 1))))))
def m_is_less : Fn := fnM 2 b_is_less
def b_floor_of : Stm :=
  (sRet (eBin fdivO (eBin ixO (eVar 0) (eC (.int 0))) (eBin ixO (eVar 0) (eC (.int 1)))))
def m_floor_of : Fn := fnM 1 b_floor_of
def b_ceiling_of : Stm :=
  (sRet (eUn negO (eBin fdivO (eUn negO (eBin ixO (eVar 0) (eC (.int 0)))) (eBin ixO (eVar 0) (eC (.int 1))))))
def m_ceiling_of : Fn := fnM 1 b_ceiling_of
def b_nearest : Stm :=
  (sRet (eBin fdivO (eBin addO (eBin mulO (eC (.int 2)) (eBin ixO (eVar 0) (eC (.int 0)))) (eBin ixO (eVar 0) (eC (.int 1)))) (eBin mulO (eC (.int 2)) (eBin ixO (eVar 0) (eC (.int 1))))))
def m_nearest : Fn := fnM 1 b_nearest
def b_total : Stm :=
  (sSeq (sSet 1 (eTup (aCons (eC (.int 0)) (aCons (eC (.int 1)) aNil))))
  (sSeq (sFor (iSeq (eVar 0)) (gNm 2) (sSet 1 (eCall 2 m_plus (aCons (eVar 1) (aCons (eVar 2) aNil)))))
  (sRet (eVar 1))))
def m_total : Fn := fnM 3 b_total
def b_median : Stm :=
  (sSeq (sOwn 1 (fLst (aCons (eBin ixO (eVar 0) (eC (.int 0))) aNil)))
  (sSeq (sFor (iSeq (eSl (eVar 0) (pSome (eC (.int 1))) pNo)) (gNm 2) (sSeq (sSet 3 (eBor [1] (eB (one lenO) (aCons (eFr (fLc [6] (iSeq (eVar 1)) (gNm 6) (tNotM (tOf (eCall 2 m_is_less (aCons (eVar 2) (aCons (eVar 6) aNil))))) (eVar 6))) aNil))))
  (sExpr (eMu (rfN 1) (aCons (eVar 3) (aCons (eVar 2) aNil)) muIns))))
  (sSeq (sPar2 4 5 (aCons (eBin ixO (eVar 1) (eBin fdivO (eBin subO (eB (one lenO) (aCons (eVar 1) aNil)) (eC (.int 1))) (eC (.int 2)))) (aCons (eBin ixO (eVar 1) (eBin fdivO (eB (one lenO) (aCons (eVar 1) aNil)) (eC (.int 2)))) aNil)))
  (sRet (eCall 2 m_times (aCons (eCall 2 m_plus (aCons (eVar 4) (aCons (eVar 5) aNil))) (aCons (eTup (aCons (eC (.int 1)) (aCons (eC (.int 2)) aNil))) aNil)))))))
def m_median : Fn := fnM 7 b_median
def b_law_taken : Stm :=
  (sSeq (sIf (tOf (eBin gtO (eIxR (rfN 0) (eC (.int 3))) (eC (.int 0)))) (sSeq (sSet 2 (eBin modO (eB (one toIntO) (aCons (eIxR (rfN 0) (eC (.int 3))) aNil)) (eVar 1)))
  (sSeq (sIx (rfN 0) (eC (.int 3)) (eBin fdivO (eIxR (rfN 0) (eC (.int 3))) (eVar 1)))
  (sRet (eVar 2)))) sNil)
  (sSeq (sIx (rfN 0) (eC (.int 1)) (eBin addO (eIxR (rfN 0) (eC (.int 1))) (eC (.int 1))))
  (sSeq (sIf (tOf (eBin gtO (eIxR (rfN 0) (eC (.int 1))) (eB (one lenO) (aCons (eIxR (rfN 0) (eC (.int 0))) aNil)))) (sSeq (sIx (rfN 0) (eC (.int 2)) (eBin modO (eB (one toIntO) (aCons (eBin addO (eBin mulO (eIxR (rfN 0) (eC (.int 2))) (eC (.int 48271))) (eC (.int 11))) aNil)) (eC (.int 2147483647))))
  (sRet (eBin modO (eB (one toIntO) (aCons (eBin fdivO (eIxR (rfN 0) (eC (.int 2))) (eC (.int 7))) aNil)) (eVar 1)))) sNil)
  (sSeq (sSet 3 (eBin ixO (eIxR (rfN 0) (eC (.int 0))) (eBin subO (eIxR (rfN 0) (eC (.int 1))) (eC (.int 1)))))
  (sSeq (sIx (rfN 0) (eC (.int 2)) (eBin modO (eB (one toIntO) (aCons (eBin addO (eBin addO (eBin mulO (eIxR (rfN 0) (eC (.int 2))) (eC (.int 48271))) (eVar 3)) (eC (.int 11))) aNil)) (eC (.int 2147483647))))
  (sSeq (sIf (tOf (eBin geO (eVar 3) (eBin powO (eC (.int 10)) (eC (.int 18))))) (sIx (rfN 0) (eC (.int 3)) (eBin fdivO (eVar 3) (eVar 1))) sNil)
  (sRet (eBin modO (eB (one toIntO) (aCons (eVar 3) aNil)) (eVar 1)))))))))
def m_law_taken : Fn := fnM 4 b_law_taken
def b_law_alike (rec : Fn) : Stm :=
  (sSeq (sIf (tOf (eUn (isiG2 "tuple" "list") (eVar 1))) (sSeq (sIf (tOrM (tNotM (tOf (eUn (isiG2 "tuple" "list") (eVar 0)))) (tOf (eBin neO (eUn (isiG "list") (eVar 0)) (eUn (isiG "list") (eVar 1))))) (sRet (eC (.bl false))) sNil)
  (sSeq (sIf (tOf (eBin neO (eB (one lenO) (aCons (eVar 0) aNil)) (eB (one lenO) (aCons (eVar 1) aNil)))) (sRet (eC (.bl false))) sNil)
  (sRet (eBin eqO (eFr (fLc [2] (iRange1 (aCons (eB (one lenO) (aCons (eVar 1) aNil)) aNil)) (gNm 2) (tNotM (tOf (eCall 2 rec (aCons (eBin ixO (eVar 0) (eVar 2)) (aCons (eBin ixO (eVar 1) (eVar 2)) aNil))))) (eVar 2))) (eLst aNil))))) sNil)
  (sSeq (sIf (tOrM (tOf (eBin isNO (eVar 1) (eC .non))) (tOf (eUn (isiG "str") (eVar 1)))) (sRet (eAnd (eBin eqO (eVar 0) (eVar 1)) (eBin eqO (eUn (isiG "str") (eVar 0)) (eUn (isiG "str") (eVar 1))))) sNil)
  (sRet (eAnd (eUn (isiG "int") (eVar 0)) (eAnd (eBin eqO (eUn (isiG "bool") (eVar 0)) (eUn (isiG "bool") (eVar 1))) (eBin eqO (eVar 0) (eVar 1)))))))
def m_law_alike : Nat → Fn
  | 0 => fun _ _ => .st
  | n + 1 => fnM 3 (b_law_alike (m_law_alike n))
def b_law_truth : Stm :=
  (sRet (eAnd (eUn (isiG "bool") (eVar 0)) (eBin eqO (eVar 0) (eVar 1))))
def m_law_truth : Fn := fnM 2 b_law_truth
def b_law_low : Stm :=
  (sSeq (sSet 2 (eC (.int 1)))
  (sSeq (sFor (iRange2 (aCons (eC (.int 1)) (aCons (eBin addO (eB (one toIntO) (aCons (eVar 1) aNil)) (eC (.int 1))) aNil))) (gNm 3) (sIf (tAndM (tOf (eBin eqO (eBin modO (eB (one toIntO) (aCons (eVar 0) aNil)) (eVar 3)) (eC (.int 0)))) (tOf (eBin eqO (eBin modO (eB (one toIntO) (aCons (eVar 1) aNil)) (eVar 3)) (eC (.int 0))))) (sSet 2 (eVar 3)) sNil))
  (sRet (eTup (aCons (eBin fdivO (eB (one toIntO) (aCons (eVar 0) aNil)) (eVar 2)) (aCons (eBin fdivO (eB (one toIntO) (aCons (eVar 1) aNil)) (eVar 2)) aNil))))))
def m_law_low : Fn := fnM 4 b_law_low
def b_law : Stm :=
  (sSeq (sSet 1 (eCel (fLst (aCons (eVar 0) (aCons (eC (.int 0)) (aCons (eC (.int 61)) (aCons (eC (.int 0)) aNil)))))))
  (sSeq (sAsg (gTp 4 (gsCons (gNm 2) (gsCons (gNm 3) (gsCons (gNm 4) (gsCons (gNm 5) gsNil))))) (eTup (aCons (eBin subO (eCall 2 m_law_taken (aCons (eVar 1) (aCons (eC (.int 121)) aNil))) (eC (.int 60))) (aCons (eBin addO (eC (.int 1)) (eCall 2 m_law_taken (aCons (eVar 1) (aCons (eC (.int 60)) aNil)))) (aCons (eBin subO (eCall 2 m_law_taken (aCons (eVar 1) (aCons (eC (.int 121)) aNil))) (eC (.int 60))) (aCons (eBin addO (eC (.int 1)) (eCall 2 m_law_taken (aCons (eVar 1) (aCons (eC (.int 60)) aNil)))) aNil))))))
  (sSeq (sPar2 6 7 (aCons (eCall 2 m_reduced (aCons (eVar 2) (aCons (eVar 3) aNil))) (aCons (eCall 2 m_reduced (aCons (eVar 4) (aCons (eVar 5) aNil))) aNil)))
  (sSeq (sIf (tOrM (tNotM (tOf (eCall 2 (m_law_alike 30) (aCons (eTup (aCons (eVar 6) (aCons (eVar 7) aNil))) (aCons (eTup (aCons (eCall 2 m_law_low (aCons (eVar 2) (aCons (eVar 3) aNil))) (aCons (eCall 2 m_law_low (aCons (eVar 4) (aCons (eVar 5) aNil))) aNil))) aNil))))) (tOrM (tNotM (tOf (eCall 1 m_is_fraction (aCons (eVar 6) aNil)))) (tOf (eCall 1 m_is_fraction (aCons (eTup (aCons (eBin mulO (eVar 2) (eC (.int 2))) (aCons (eBin mulO (eVar 3) (eC (.int 2))) aNil))) aNil))))) (sRet (eC (.bl false))) sNil)
  (sSeq (sIf (tNotM (tOf (eCall 2 (m_law_alike 30) (aCons (eTup (aCons (eCall 2 m_plus (aCons (eVar 6) (aCons (eVar 7) aNil))) (aCons (eCall 2 m_minus (aCons (eVar 6) (aCons (eVar 7) aNil))) (aCons (eCall 2 m_times (aCons (eVar 6) (aCons (eVar 7) aNil))) aNil)))) (aCons (eTup (aCons (eCall 2 m_law_low (aCons (eBin addO (eBin mulO (eVar 2) (eVar 5)) (eBin mulO (eVar 4) (eVar 3))) (aCons (eBin mulO (eVar 3) (eVar 5)) aNil))) (aCons (eCall 2 m_law_low (aCons (eBin subO (eBin mulO (eVar 2) (eVar 5)) (eBin mulO (eVar 4) (eVar 3))) (aCons (eBin mulO (eVar 3) (eVar 5)) aNil))) (aCons (eCall 2 m_law_low (aCons (eBin mulO (eVar 2) (eVar 4)) (aCons (eBin mulO (eVar 3) (eVar 5)) aNil))) aNil)))) aNil))))) (sRet (eC (.bl false))) sNil)
  (sSeq (sIf (tOrM (tAndM (tOf (eBin gtO (eVar 4) (eC (.int 0)))) (tNotM (tOf (eCall 2 (m_law_alike 30) (aCons (eCall 2 m_over (aCons (eVar 6) (aCons (eVar 7) aNil))) (aCons (eCall 2 m_law_low (aCons (eBin mulO (eVar 2) (eVar 5)) (aCons (eBin mulO (eVar 3) (eVar 4)) aNil))) aNil)))))) (tNotM (tOf (eCall 2 m_law_truth (aCons (eCall 2 m_is_less (aCons (eVar 6) (aCons (eVar 7) aNil))) (aCons (eBin ltO (eBin mulO (eVar 2) (eVar 5)) (eBin mulO (eVar 4) (eVar 3))) aNil)))))) (sRet (eC (.bl false))) sNil)
  (sSeq (sSet 8 (eFr (fLR2 (eUn negO (eC (.int 61))) (eC (.int 62)))))
  (sSeq (sPar2 9 10 (aCons (eB (oneTwo maxO max2) (aCons (eFr (fLc [18] (iSeq (eVar 8)) (gNm 18) (tOf (eBin leO (eBin mulO (eVar 18) (eVar 3)) (eVar 2))) (eVar 18))) aNil)) (aCons (eB (oneTwo minO min2) (aCons (eFr (fLc [18] (iSeq (eVar 8)) (gNm 18) (tOf (eBin geO (eBin mulO (eVar 18) (eVar 3)) (eVar 2))) (eVar 18))) aNil)) aNil)))
  (sSeq (sSet 11 (eB (oneTwo maxO max2) (aCons (eFr (fLc [18] (iSeq (eVar 8)) (gNm 18) (tOf (eBin leO (eBin mulO (eBin subO (eBin mulO (eC (.int 2)) (eVar 18)) (eC (.int 1))) (eVar 3)) (eBin mulO (eC (.int 2)) (eVar 2)))) (eVar 18))) aNil)))
  (sSeq (sIf (tNotM (tOf (eCall 2 (m_law_alike 30) (aCons (eTup (aCons (eCall 1 m_floor_of (aCons (eVar 6) aNil)) (aCons (eCall 1 m_ceiling_of (aCons (eVar 6) aNil)) (aCons (eCall 1 m_nearest (aCons (eVar 6) aNil)) aNil)))) (aCons (eTup (aCons (eVar 9) (aCons (eVar 10) (aCons (eVar 11) aNil)))) aNil))))) (sRet (eC (.bl false))) sNil)
  (sSeq (sPar2 12 13 (aCons (eBin addO (eLst (aCons (eVar 6) (aCons (eVar 7) aNil))) (eFr (fLc [18] (iRange1 (aCons (eCall 2 m_law_taken (aCons (eVar 1) (aCons (eC (.int 5)) aNil))) aNil)) (gNm 18) tYesM (eCall 2 m_reduced (aCons (eBin subO (eCall 2 m_law_taken (aCons (eVar 1) (aCons (eC (.int 40)) aNil))) (eC (.int 20))) (aCons (eBin addO (eC (.int 1)) (eCall 2 m_law_taken (aCons (eVar 1) (aCons (eC (.int 6)) aNil)))) aNil)))))) (aCons (eTup (aCons (eC (.int 0)) (aCons (eC (.int 1)) aNil))) aNil)))
  (sSeq (sFor (iSeq (eVar 12)) (gNm 14) (sSet 13 (eCall 2 m_law_low (aCons (eBin addO (eBin mulO (eBin ixO (eVar 13) (eC (.int 0))) (eBin ixO (eVar 14) (eC (.int 1)))) (eBin mulO (eBin ixO (eVar 14) (eC (.int 0))) (eBin ixO (eVar 13) (eC (.int 1))))) (aCons (eBin mulO (eBin ixO (eVar 13) (eC (.int 1))) (eBin ixO (eVar 14) (eC (.int 1)))) aNil)))))
  (sSeq (sIf (tNotM (tOf (eCall 2 (m_law_alike 30) (aCons (eCall 1 m_total (aCons (eVar 12) aNil)) (aCons (eVar 13) aNil))))) (sRet (eC (.bl false))) sNil)
  (sSeq (sSet 15 (eCall 1 m_median (aCons (eVar 12) aNil)))
  (sSeq (sSet 9 (eB (one lenO) (aCons (eFr (fLc [14] (iSeq (eVar 12)) (gNm 14) (tOf (eBin ltO (eBin mulO (eBin ixO (eVar 14) (eC (.int 0))) (eBin ixO (eVar 15) (eC (.int 1)))) (eBin mulO (eBin ixO (eVar 15) (eC (.int 0))) (eBin ixO (eVar 14) (eC (.int 1)))))) (eC (.int 1)))) aNil)))
  (sSeq (sSet 10 (eB (one lenO) (aCons (eFr (fLc [14] (iSeq (eVar 12)) (gNm 14) (tOf (eBin gtO (eBin mulO (eBin ixO (eVar 14) (eC (.int 0))) (eBin ixO (eVar 15) (eC (.int 1)))) (eBin mulO (eBin ixO (eVar 15) (eC (.int 0))) (eBin ixO (eVar 14) (eC (.int 1)))))) (eC (.int 1)))) aNil)))
  (sSeq (sIf (tOrM (tOf (eBin gtO (eBin mulO (eC (.int 2)) (eVar 9)) (eB (one lenO) (aCons (eVar 12) aNil)))) (tOrM (tOf (eBin gtO (eBin mulO (eC (.int 2)) (eVar 10)) (eB (one lenO) (aCons (eVar 12) aNil)))) (tAndM (tOf (eBin eqO (eBin modO (eB (one lenO) (aCons (eVar 12) aNil)) (eC (.int 2))) (eC (.int 1)))) (tOf (eBin notInO (eVar 15) (eVar 12)))))) (sRet (eC (.bl false))) sNil)
  (sSeq (sFor (iSeq (eLst (aCons (eC .non) (aCons (eTup (aCons (eC (.int 1)) (aCons (eC (.int 0)) aNil))) (aCons (eTup (aCons (eC (.int 2)) (aCons (eC (.int 4)) aNil))) (aCons (eTup (aCons (eC (.int 0)) (aCons (eC (.int 2)) aNil))) (aCons (eTup (aCons (eC (.int 1)) aNil)) (aCons (eTup (aCons (eC (.bl true)) (aCons (eC (.int 2)) aNil))) (aCons (eLst (aCons (eC (.int 1)) (aCons (eC (.int 2)) (aCons (eC (.int 3)) aNil)))) (aCons (eC (.int 5)) (aCons (eTup (aCons (eC (.int 1)) (aCons (eUn negO (eC (.int 1))) aNil))) aNil))))))))))) (gNm 16) (sSeq (sIf (tOf (eCall 1 m_is_fraction (aCons (eVar 16) aNil))) (sRet (eC (.bl false))) sNil)
  (sTryAs isa_BadNumber 17 (sSeq (sExpr (eCall 1 m_want_fraction (aCons (eVar 16) aNil)))
  (sRet (eC (.bl false)))) (sIf (tOf (eBin neO (eB (one reprO) (aCons (eXf 17 "BadNumber" "value") aNil)) (eB (one reprO) (aCons (eVar 16) aNil)))) (sRet (eC (.bl false))) sNil))))
  (sRet (eCall 2 (m_law_alike 30) (aCons (eCall 1 m_want_fraction (aCons (eB (one listO) (aCons (eVar 6) aNil)) aNil)) (aCons (eVar 6) aNil))))))))))))))))))))))
def m_law : Fn := fnM 19 b_law
end Prog
namespace Prog
open PySem PySem.Spec PyProof.Rows L2 Mir
abbrev F2 (p q : Int) : D := .tup [.int p, .int q]
@[simp] theorem ix0 (a b : D) : ixO (.tup [a, b]) (.int 0) = some a := rfl
@[simp] theorem ix1 (a b : D) : ixO (.tup [a, b]) (.int 1) = some b := rfl
@[simp] theorem abs_i (i : Int) : absO (.int i) = some (.int (if i < 0 then -i else i)) := rfl
/-- Euclid's loop -/
def eT : Tst := tOf (eBin gtO (eVar 3) (eC (.int 0)))
def eB1 : Stm := sPar2 2 3 (aCons (eVar 3) (aCons (eBin modO (eVar 2) (eVar 3)) aNil))
theorem eu_stop (A B : Sl) (x : Int) (n : Nat) (st : List Cl) : whL eT eB1 (n + 1) ⟨[A, B, .va (.int x), .va (.int 0)], st⟩ = .ok .nx ⟨[A, B, .va (.int x), .va (.int 0)], st⟩ := by
  unfold whL eT
  simp
theorem eu_step (A B : Sl) (x y : Int) (n : Nat) (st : List Cl) (hy : 0 < y) : whL eT eB1 (n + 1) ⟨[A, B, .va (.int x), .va (.int y)], st⟩ = whL eT eB1 n ⟨[A, B, .va (.int y), .va (.int (x % y))], st⟩ := by
  rw [whL]
  simp [eT, eB1, hy, mod_ii hy]
theorem gcd_step (x y : Nat) : Nat.gcd y (x % y) = Nat.gcd x y := by
  rw [Nat.gcd_comm x y, Nat.gcd_rec y x, Nat.gcd_comm]
theorem eu (A B : Sl) (st : List Cl) : ∀ (m x y n : Nat), y < 2 ^ m → 2 * m + 1 ≤ n → whL eT eB1 n ⟨[A, B, .va (.int x), .va (.int y)], st⟩ = .ok .nx ⟨[A, B, .va (.int (Nat.gcd x y : Nat)), .va (.int 0)], st⟩
  | 0, x, y, n, h, hn => by
    have : y = 0 := by simpa using h
    subst this
    obtain ⟨k, rfl⟩ : ∃ k, n = k + 1 := ⟨n - 1, by omega⟩
    rw [Nat.gcd_zero_right]
    exact eu_stop A B x k st
  | m + 1, x, y, n, h, hn => by
    obtain ⟨k, rfl⟩ : ∃ k, n = k + 1 := ⟨n - 1, by omega⟩
    rcases Nat.eq_zero_or_pos y with rfl | hy
    · rw [Nat.gcd_zero_right]; exact eu_stop A B x k st
    rw [eu_step A B x y k st (by omega), ← Int.natCast_emod]
    have hr := Nat.mod_lt x hy
    by_cases c : x % y < 2 ^ m
    · rw [eu A B st m y (x % y) k c (by omega), gcd_step]
    · obtain ⟨j, rfl⟩ : ∃ j, k = j + 1 := ⟨k - 1, by omega⟩
      have hp := Nat.two_pow_pos m
      rw [eu_step A B y ((x % y : Nat) : Int) j st (by omega), ← Int.natCast_emod]
      have e : y % (x % y) = y - x % y := by
        rw [Nat.pow_succ] at h
        rw [Nat.mod_eq_sub_mod (by omega), Nat.mod_eq_of_lt (by omega)]
      rw [eu A B st m (x % y) (y % (x % y)) j (by rw [e]; rw [Nat.pow_succ] at h; omega) (by omega), gcd_step, gcd_step]
def gg (a b : Int) : Int := (Int.gcd a b : Nat)
def red (a b : Int) : D := F2 (a / gg a b) (b / gg a b)
theorem gg_pos {a b : Int} (h : 0 < b) : 0 < gg a b := by
  unfold gg
  have : 0 < Int.gcd a b := Int.gcd_pos_of_ne_zero_right a (by omega)
  omega
theorem gg_le {a b : Int} (h : 0 < b) : gg a b ≤ b := by
  unfold gg
  exact Int.le_of_dvd h (Int.gcd_dvd_right ..)
theorem reduced_eq (a b : Int) (hb : 0 < b) (hb2 : b < 1073741824) (st : List Cl) : m_reduced [.int a, .int b] st = .ok (red a b) ⟨[], st⟩ := by
  unfold m_reduced b_reduced
  rw [fnM_eq]
  have h0 : ∀ (t : Tst) (s : Stm) (S : MS), sWhile 200 t s S = whL t s 200 S := fun _ _ _ => rfl
  have ea : (if a < 0 then -a else a) = ((a.natAbs : Nat) : Int) := by split <;> omega
  have eb : b = ((b.natAbs : Nat) : Int) := by omega
  have e := eu (.va (.int a)) (.va (.int b)) st 30 a.natAbs b.natAbs 200 (by omega) (by omega)
  rw [← eb] at e
  have eg : ((Nat.gcd a.natAbs b.natAbs : Nat) : Int) = gg a b := rfl
  rw [eg] at e
  unfold eT eB1 at e
  have hg := gg_pos (a := a) hb
  have hg2 := gg_le (a := a) hb
  simp [h0, ea, e, hg, fdiv_ii hg (show gg a b < 1073741824 by omega), red]
/-- trial division -/
def lowN (a b : Int) : Nat → Int
  | 0 => 1
  | k + 1 => if a % ((k + 1 : Nat) : Int) = 0 ∧ b % ((k + 1 : Nat) : Int) = 0 then ((k + 1 : Nat) : Int) else lowN a b k
theorem lowN_eq {a b : Int} (hb : 0 < b) : ∀ k : Nat, gg a b ≤ k → lowN a b k = gg a b
  | 0, h => by have := gg_pos (a := a) hb; omega
  | k + 1, h => by
    unfold lowN
    by_cases c : gg a b = ((k + 1 : Nat) : Int)
    · rw [if_pos, c]
      rw [← c]
      exact ⟨Int.emod_eq_zero_of_dvd (Int.gcd_dvd_left ..), Int.emod_eq_zero_of_dvd (Int.gcd_dvd_right ..)⟩
    · rw [if_neg, lowN_eq hb k (by omega)]
      rintro ⟨h1, h2⟩
      have d1 := Int.dvd_of_emod_eq_zero h1
      have d2 := Int.dvd_of_emod_eq_zero h2
      have : ((k + 1 : Nat) : Int) ∣ gg a b := Int.dvd_coe_gcd d1 d2
      have := Int.le_of_dvd (gg_pos hb) this
      omega
theorem low_eq (a b : Int) (hb : 0 < b) (hb2 : b < 1073741824) (st : List Cl) : m_law_low [.int a, .int b] st = .ok (red a b) ⟨[], st⟩ := by
  unfold m_law_low b_law_low
  rw [fnM_eq]
  have hg := gg_pos (a := a) hb
  have hg2 := gg_le (a := a) hb
  obtain ⟨S2, e, hS⟩ := for_ix (g := gNm 3) (b := sIf (tAndM (tOf (eBin eqO (eBin modO (eB (one toIntO) (aCons (eVar 0) aNil)) (eVar 3)) (eC (.int 0)))) (tOf (eBin eqO (eBin modO (eB (one toIntO) (aCons (eVar 1) aNil)) (eVar 3)) (eC (.int 0))))) (sSet 2 (eVar 3)) sNil)
    (fun i S => ∃ o, S = ⟨[.va (.int a), .va (.int b), .va (.int (lowN a b i)), o], st⟩) (rngD 1 b.toNat) (S := ⟨[.va (.int a), .va (.int b), .va (.int 1), .un], st⟩) ⟨.un, rfl⟩ (by
      rintro i d S hd ⟨o, rfl⟩
      obtain ⟨hi, rfl⟩ := rngD_get hd
      refine ⟨_, ⟨[.va (.int a), .va (.int b), .va (.int (lowN a b (i + 1))), .va (.int (1 + (i : Nat)))], st⟩, rfl, ?_, _, rfl⟩
      have e1 : (1 + (i : Int)) = ((i + 1 : Nat) : Int) := by omega
      have hp : (0 : Int) < ((i + 1 : Nat) : Int) := by omega
      rw [e1, show lowN a b (i + 1) = if a % ((i + 1 : Nat) : Int) = 0 ∧ b % ((i + 1 : Nat) : Int) = 0 then ((i + 1 : Nat) : Int) else lowN a b i from rfl]
      by_cases c1 : a % ((i + 1 : Nat) : Int) = 0
      · by_cases c2 : b % ((i + 1 : Nat) : Int) = 0
        · simp [mod_ii hp, c1, c2, -Int.natCast_add]
        · simp [mod_ii hp, c1, c2, -Int.natCast_add]
      · simp [mod_ii hp, c1, -Int.natCast_add])
  obtain ⟨o, rfl⟩ := hS
  rw [rngD_length, lowN_eq hb _ (by omega)] at e
  have e2 : (b + 1 - 1).toNat = b.toNat := by omega
  have er := range2 (as := aCons (eC (.int 1)) (aCons (eBin addO (eB (one toIntO) (aCons (eVar 1) aNil)) (eC (.int 1))) aNil)) (S := ⟨[.va (.int a), .va (.int b), .va (.int 1), .un], st⟩) (i := 1) (j := b + 1) (by simp; rfl) (by omega) (by omega) (by omega) (by omega)
  rw [e2] at er
  simp [er, e, fdiv_ii hg (show gg a b < 1073741824 by omega), red]

/-! ### fractions -/
/-- a pair that is a reduced fraction -/
structure Fra (p q : Int) : Prop where
  pos : 0 < q
  one : gg p q = 1
theorem red_fra {a b : Int} (hb : 0 < b) : ∃ p q, red a b = F2 p q ∧ Fra p q ∧ a = gg a b * p ∧ b = gg a b * q ∧ q ≤ b := by
  have hg := gg_pos (a := a) hb
  have d1 : gg a b ∣ a := Int.gcd_dvd_left ..
  have d2 : gg a b ∣ b := Int.gcd_dvd_right ..
  have e1 := Int.mul_ediv_cancel' d1
  have e2 := Int.mul_ediv_cancel' d2
  have hq : 0 < b / gg a b := Int.ediv_pos_of_pos_of_dvd hb (Int.le_of_lt hg) d2
  refine ⟨a / gg a b, b / gg a b, rfl, ⟨hq, ?_⟩, e1.symm, e2.symm, Int.ediv_le_self _ (Int.le_of_lt hb)⟩
  have k : Int.gcd (gg a b * (a / gg a b)) (gg a b * (b / gg a b)) = (gg a b).natAbs * Int.gcd (a / gg a b) (b / gg a b) := Int.gcd_mul_left ..
  rw [e1, e2] at k
  unfold gg at k ⊢
  have hz : 0 < Int.gcd a b := by unfold gg at hg; omega
  have k' : Int.gcd a b * 1 = Int.gcd a b * Int.gcd (a / (Int.gcd a b : Nat)) (b / (Int.gcd a b : Nat)) := by simpa using k
  have := Nat.eq_of_mul_eq_mul_left hz k'
  omega
theorem red_scale {k a b : Int} (hk : 0 < k) (hb : 0 < b) : red (k * a) (k * b) = red a b := by
  have hg := gg_pos (a := a) hb
  have e : gg (k * a) (k * b) = k * gg a b := by
    unfold gg
    rw [Int.gcd_mul_left]
    have : ((k.natAbs : Nat) : Int) = k := by omega
    rw [Int.natCast_mul, this]
  unfold red
  rw [e, Int.mul_ediv_mul_of_pos _ _ hk, Int.mul_ediv_mul_of_pos _ _ hk]
theorem red_self {p q : Int} (h : Fra p q) : red p q = F2 p q := by
  unfold red
  rw [h.one, Int.ediv_one, Int.ediv_one]
theorem plus_eq {a b c d : Int} (hb : 0 < b) (hd : 0 < d) (hz : b * d < 1073741824) (hb2 : b < 1073741824) (hd2 : d < 1073741824) (st : List Cl) : m_plus [F2 a b, F2 c d] st = .ok (red (a * d + c * b) (b * d)) ⟨[], st⟩ := by
  unfold m_plus b_plus
  rw [fnM_eq]
  have h1 : CMul a d := .inr (by omega)
  have h2 : CMul c b := .inr (by omega)
  have h3 : CMul b d := .inr (by omega)
  simp [mul_ii h1, mul_ii h2, mul_ii h3, callM, reduced_eq _ _ (Int.mul_pos hb hd) hz]
theorem minus_eq {a b c d : Int} (hb : 0 < b) (hd : 0 < d) (hz : b * d < 1073741824) (hb2 : b < 1073741824) (hd2 : d < 1073741824) (st : List Cl) : m_minus [F2 a b, F2 c d] st = .ok (red (a * d - c * b) (b * d)) ⟨[], st⟩ := by
  unfold m_minus b_minus
  rw [fnM_eq]
  have h1 : CMul a d := .inr (by omega)
  have h2 : CMul c b := .inr (by omega)
  have h3 : CMul b d := .inr (by omega)
  simp [mul_ii h1, mul_ii h2, mul_ii h3, callM, reduced_eq _ _ (Int.mul_pos hb hd) hz]
theorem times_eq {a b c d : Int} (hb : 0 < b) (hd : 0 < d) (hz : b * d < 1073741824) (hc : -1073741824 < c ∧ c < 1073741824) (hd2 : d < 1073741824) (st : List Cl) : m_times [F2 a b, F2 c d] st = .ok (red (a * c) (b * d)) ⟨[], st⟩ := by
  unfold m_times b_times
  rw [fnM_eq]
  have h1 : CMul a c := .inr (by omega)
  have h3 : CMul b d := .inr (by omega)
  simp [mul_ii h1, mul_ii h3, callM, reduced_eq _ _ (Int.mul_pos hb hd) hz]
theorem over_eq {a b c d : Int} (hb : 0 < b) (hc : 0 < c) (hz : b * c < 1073741824) (hc2 : c < 1073741824) (hd2 : 0 < d ∧ d < 1073741824) (st : List Cl) : m_over [F2 a b, F2 c d] st = .ok (red (a * d) (b * c)) ⟨[], st⟩ := by
  unfold m_over b_over
  rw [fnM_eq]
  have h1 : CMul a d := .inr (by omega)
  have h3 : CMul b c := .inr (by omega)
  simp [mul_ii h1, mul_ii h3, callM, reduced_eq _ _ (Int.mul_pos hb hc) hz]
theorem is_less_eq (a b c d : Int) (hb : 0 < b ∧ b < 1073741824) (hd : 0 < d ∧ d < 1073741824) (st : List Cl) : m_is_less [F2 a b, F2 c d] st = .ok (.bl (decide (a * d < c * b))) ⟨[], st⟩ := by
  unfold m_is_less b_is_less
  rw [fnM_eq]
  have h1 : CMul a d := .inr (by omega)
  have h2 : CMul c b := .inr (by omega)
  simp [mul_ii h1, mul_ii h2]
theorem floor_eq (a b : Int) (hb : 0 < b ∧ b < 1073741824) (st : List Cl) : m_floor_of [F2 a b] st = .ok (.int (a / b)) ⟨[], st⟩ := by
  unfold m_floor_of b_floor_of
  rw [fnM_eq]
  simp [fdiv_ii hb.1 hb.2]
theorem ceil_eq (a b : Int) (hb : 0 < b ∧ b < 1073741824) (st : List Cl) : m_ceiling_of [F2 a b] st = .ok (.int (-(-a / b))) ⟨[], st⟩ := by
  unfold m_ceiling_of b_ceiling_of
  rw [fnM_eq]
  simp [fdiv_ii hb.1 hb.2]
theorem near_eq (a b : Int) (hb : 0 < b ∧ b < 536870912) (st : List Cl) : m_nearest [F2 a b] st = .ok (.int ((2 * a + b) / (2 * b))) ⟨[], st⟩ := by
  unfold m_nearest b_nearest
  rw [fnM_eq]
  have h1 : CMul 2 a := .inl (by omega)
  have h2 : CMul 2 b := .inl (by omega)
  simp [mul_ii h1, mul_ii h2, fdiv_ii (i := 2 * a + b) (j := 2 * b) (by omega) (by omega)]
/-! ### is_fraction -/
@[simp] theorem isi_int (i : Int) : isiG "int" (.int i) = some (.bl true) := rfl
@[simp] theorem isi_bool (i : Int) : isiG "bool" (.int i) = some (.bl false) := rfl
@[simp] theorem isi_list (i : Int) : isiG "list" (.int i) = some (.bl false) := rfl
theorem is_whole_eq (i : Int) (st : List Cl) : m_is_whole [.int i] st = .ok (.bl true) ⟨[], st⟩ := rfl
theorem is_row_t (ds : List D) (st : List Cl) : m_is_row [.tup ds] st = .ok (.bl true) ⟨[], st⟩ := rfl
theorem is_row_l (ds : List D) (st : List Cl) : m_is_row [.lst ds] st = .ok (.bl true) ⟨[], st⟩ := rfl
@[simp] theorem len_t (ds : List D) : lenO (.tup ds) = some (.int ds.length) := rfl
@[simp] theorem len_l (ds : List D) : lenO (.lst ds) = some (.int ds.length) := rfl
theorem eq_F2 (a b c d : Int) : eqO (F2 a b) (F2 c d) = some (.bl (decide (a = c ∧ b = d))) := by
  show some (D.bl (PyData.eqv (.tuple [.int a, .int b]) (.tuple [.int c, .int d]))) = _
  have : PyData.eqv (.tuple [.int a, .int b]) (.tuple [.int c, .int d]) = ((a == c) && ((b == d) && true)) := by simp [PyData.eqv, PyData.eqvAll]
  rw [this]
  congr 2
  rw [Bool.eq_iff_iff]
  simp
theorem is_fraction_eq {a b : Int} (hb : 0 < b) (hb2 : b < 1073741824) (st : List Cl) {p q : Int} (e : red a b = F2 p q) : m_is_fraction [F2 a b] st = .ok (.bl (decide (p = a ∧ q = b))) ⟨[], st⟩ := by
  unfold m_is_fraction b_is_fraction
  rw [fnM_eq]
  simp [callM, is_row_t, is_whole_eq, reduced_eq a b hb hb2, e, eq_F2, show ¬ b < 1 by omega]
end Prog
namespace Prog
open PySem PySem.Spec PyProof.Rows L2 Mir
/-! ### what the script gives -/
@[simp] theorem eIxR_eq (a : Rf) (b : Exp) (S : MS) : eIxR a b S = (a S).bind fun m S1 => (b S1).bind fun k S2 => liftO S2 ((getM S2 m).bind fun s => ixS s k) := rfl
@[simp] theorem rfN_eq (i : Nat) (l : List Sl) (st : List Cl) : rfN i ⟨l, st⟩ = match l[i]? with
  | some (.ol _) => .ok (.own i) ⟨l, st⟩
  | some (.od _ _) => .ok (.own i) ⟨l, st⟩
  | some (.oi _ _) => .ok (.own i) ⟨l, st⟩
  | some (.va (.cel n)) => .ok (.cel n) ⟨l, st⟩
  | _ => .st := rfl
@[simp] theorem getM_cel (l : List Sl) (c : Cl) (st : List Cl) : getM ⟨l, c :: st⟩ (.cel 0) = c.sl := rfl
@[simp] theorem sl_l (ds : List D) : (Cl.l ds).sl = some (.ol ds) := rfl
@[simp] theorem ixS_l (ds : List D) (i : Int) : ixS (.ol ds) (.int i) = atI ds i := rfl
@[simp] theorem at0 {α : Type} (a b c d : α) : atI [a, b, c, d] 0 = some a := rfl
@[simp] theorem at1 {α : Type} (a b c d : α) : atI [a, b, c, d] 1 = some b := rfl
@[simp] theorem at2 {α : Type} (a b c d : α) : atI [a, b, c, d] 2 = some c := rfl
@[simp] theorem at3 {α : Type} (a b c d : α) : atI [a, b, c, d] 3 = some d := rfl
@[simp] theorem sIx_eq (a : Rf) (b e : Exp) (S : MS) : sIx a b e S = (e S).bind fun d S1 => gIx a b d S1 := rfl
@[simp] theorem gIx_eq (a : Rf) (b : Exp) (d : D) (S : MS) : gIx a b d S = (a S).bind fun m S1 => (b S1).bind fun k S2 => match (getM S2 m).bind fun s => setS s k d with
  | some s' => liftG (setM S2 m s')
  | none => .st := rfl
@[simp] theorem set1 (a b c d e : D) : setS (.ol [a, b, c, d]) (.int 1) e = some (.ol [a, e, c, d]) := rfl
@[simp] theorem set2 (a b c d e : D) : setS (.ol [a, b, c, d]) (.int 2) e = some (.ol [a, b, e, d]) := rfl
@[simp] theorem set3 (a b c d e : D) : setS (.ol [a, b, c, d]) (.int 3) e = some (.ol [a, b, c, e]) := rfl
@[simp] theorem setM_cel (l : List Sl) (c : Cl) (st : List Cl) (ds : List D) : setM ⟨l, c :: st⟩ (.cel 0) (.ol ds) = some ⟨l, .l ds :: st⟩ := rfl
@[simp] theorem len_s (ns : List Int) : lenO (.scr ns) = some (.int ns.length) := rfl
theorem pow18 : powO (.int 10) (.int 18) = some (.int 1000000000000000000) := by
  show (if CPow 10 18 then some (D.int (10 ^ (18 : Int).toNat)) else none) = _
  rw [if_pos (by decide)]; rfl
abbrev row (ns : List Int) (p s r : Int) : Cl := .l [.scr ns, .int p, .int s, .int r]
theorem taken_eq (ns : List Int) (p s r many : Int) (hp : 0 ≤ p) (h1 : 0 < many) (h2 : many < 1073741824) : ∃ k p' s' r', m_law_taken [.cel 0, .int many] [row ns p s r] = .ok (.int k) ⟨[], [row ns p' s' r']⟩ ∧ 0 ≤ k ∧ k < many ∧ 0 ≤ p' := by
  unfold m_law_taken b_law_taken
  rw [fnM_eq]
  have m1 : CMul s 48271 := .inr (by omega)
  have m2 : ∀ i : Int, 0 ≤ i % many ∧ i % many < many := fun i => ⟨Int.emod_nonneg _ (by omega), Int.emod_lt_of_pos _ h1⟩
  by_cases c1 : 0 < r
  · exact ⟨r % many, p, s, r / many, by simp [c1, mod_ii h1, fdiv_ii h1 h2], (m2 _).1, (m2 _).2, hp⟩
  by_cases c2 : (ns.length : Int) < p + 1
  · refine ⟨((s * 48271 + 11) % 2147483647) / 7 % many, p + 1, (s * 48271 + 11) % 2147483647, r, ?_, (m2 _).1, (m2 _).2, by omega⟩
    simp [c1, c2, mul_ii m1, mod_ii (i := s * 48271 + 11) (j := 2147483647) (by omega), fdiv_ii (i := (s * 48271 + 11) % 2147483647) (j := 7) (by omega) (by omega), mod_ii h1]
  · have hl : p.toNat < ns.length := by omega
    have ec : ixO (.scr ns) (.int (p + 1 - 1)) = some (.int ns[p.toNat]) := by
      show (atI ns (p + 1 - 1)).map D.int = _
      have : p + 1 - 1 = ((p.toNat : Nat) : Int) := by omega
      rw [this, Mir.atI_nat, List.getElem?_eq_getElem hl]; rfl
    by_cases c3 : 1000000000000000000 ≤ ns[p.toNat]
    · refine ⟨ns[p.toNat] % many, p + 1, (s * 48271 + ns[p.toNat] + 11) % 2147483647, ns[p.toNat] / many, ?_, (m2 _).1, (m2 _).2, by omega⟩
      simp only [Int.add_sub_cancel] at ec
      simp [c1, c2, c3, ec, mul_ii m1, pow18, mod_ii (i := s * 48271 + ns[p.toNat] + 11) (j := 2147483647) (by omega), mod_ii h1, fdiv_ii h1 h2]
    · refine ⟨ns[p.toNat] % many, p + 1, (s * 48271 + ns[p.toNat] + 11) % 2147483647, r, ?_, (m2 _).1, (m2 _).2, by omega⟩
      simp only [Int.add_sub_cancel] at ec
      simp [c1, c2, c3, ec, mul_ii m1, pow18, mod_ii (i := s * 48271 + ns[p.toNat] + 11) (j := 2147483647) (by omega), mod_ii h1]
/-! ### alike -/
@[simp] theorem eq_bb (a b : Bool) : eqO (.bl a) (.bl b) = some (.bl (decide (a = b))) := by cases a <;> cases b <;> rfl
@[simp] theorem ne_bb (a b : Bool) : neO (.bl a) (.bl b) = some (.bl (!decide (a = b))) := by cases a <;> cases b <;> rfl
theorem alike_int (n : Nat) (i : Int) (st : List Cl) : m_law_alike (n + 1) [.int i, .int i] st = .ok (.bl true) ⟨[], st⟩ := by
  show fnM 3 (b_law_alike (m_law_alike n)) _ _ = _
  rw [fnM_eq]
  unfold b_law_alike
  simp [show ∀ i, isiG2 "tuple" "list" (.int i) = some (.bl false) from fun _ => rfl, show ∀ i, isNO (.int i) .non = some (.bl false) from fun _ => rfl, show ∀ i, isiG "str" (.int i) = some (.bl false) from fun _ => rfl]
theorem eq_nil : eqO (.lst []) (.lst []) = some (.bl true) := by simp [eqO, D.ok, D.okL, D.py, D.pyL, PyData.eqv, PyData.eqvAll]
theorem alike_tup (n : Nat) (xs : List D) (st : List Cl) (h : ∀ x ∈ xs, m_law_alike n [x, x] st = .ok (.bl true) ⟨[], st⟩) (hz : xs.length ≤ 1000) : m_law_alike (n + 1) [.tup xs, .tup xs] st = .ok (.bl true) ⟨[], st⟩ := by
  show fnM 3 (b_law_alike (m_law_alike n)) _ _ = _
  rw [fnM_eq]
  unfold b_law_alike
  have e := fLc_pure (k := 2) (its := iRange1 (aCons (eB (one lenO) (aCons (eVar 1) aNil)) aNil)) (t := tNotM (tOf (eCall 2 (m_law_alike n) (aCons (eBin ixO (eVar 0) (eVar 2)) (aCons (eBin ixO (eVar 1) (eVar 2)) aNil))))) (e := eVar 2)
    (l := [.va (.tup xs), .va (.tup xs), .un]) (st := st) (S := ⟨[.va (.tup xs), .va (.tup xs), .un], st⟩) (ds := rngD 0 xs.length) (st1 := st) (fun _ => false) id (range1 (j := xs.length) (by simp) (by omega) (by omega)) (by simp) rfl (fun d hd => by
      obtain ⟨i, hi⟩ := List.getElem?_of_mem hd
      obtain ⟨h1, rfl⟩ := rngD_get hi
      have ex : ixO (.tup xs) (.int (i : Nat)) = some xs[i] := by
        show atI xs (i : Nat) = _
        rw [Mir.atI_nat, List.getElem?_eq_getElem h1]
      simp [ex, callM, h xs[i] (List.getElem_mem h1)]) (fun d hd hp => by cases hp) (by rw [rngD_length, sizeLine_eq]; omega)
  rw [show (rngD 0 xs.length).filter (fun _ => false) = [] from by simp] at e
  have q1 : ∀ ds, isiG2 "tuple" "list" (.tup ds) = some (.bl true) := fun _ => rfl
  have q3 : ∀ ds, isiG "list" (.tup ds) = some (.bl false) := fun _ => rfl
  show fin (sSeq _ _ ⟨[.va (.tup xs), .va (.tup xs), .un], st⟩) = _
  refine (congrArg fin (seq_rt (d := .bl true) (S1 := ⟨[.va (.tup xs), .va (.tup xs), .un], st⟩) ?_)).trans rfl
  rw [sIf_eq, show tOf (eUn (isiG2 "tuple" "list") (eVar 1)) ⟨[.va (.tup xs), .va (.tup xs), .un], st⟩ = .ok true ⟨[.va (.tup xs), .va (.tup xs), .un], st⟩ from by simp [q1], bind_ok, if_pos rfl]
  rw [seq_nx (S1 := ⟨[.va (.tup xs), .va (.tup xs), .un], st⟩) (by simp [q1, q3]), seq_nx (S1 := ⟨[.va (.tup xs), .va (.tup xs), .un], st⟩) (by simp)]
  simp [e, eq_nil]
end Prog
namespace Prog
open PySem PySem.Spec PyProof.Rows L2 Mir
abbrev FF (p : Int × Int) : D := F2 p.1 p.2
def redP (a b : Int) : Int × Int := (a / gg a b, b / gg a b)
theorem red_P (a b : Int) : red a b = FF (redP a b) := rfl
theorem redP_pos {a b : Int} (hb : 0 < b) : 0 < (redP a b).2 ∧ (redP a b).2 ≤ b := by
  obtain ⟨p, q, e, h, _, _, hl⟩ := red_fra (a := a) hb
  rw [red_P] at e
  have e2 : (redP a b).2 = q := by injection e with e; injection e with e e'; injection e' with e'; injection e'
  rw [e2]; exact ⟨h.pos, hl⟩
theorem redP_spec {a b : Int} (hb : 0 < b) : a = gg a b * (redP a b).1 ∧ b = gg a b * (redP a b).2 ∧ Fra (redP a b).1 (redP a b).2 := by
  obtain ⟨p, q, e, h, h1, h2, hl⟩ := red_fra (a := a) hb
  rw [red_P] at e
  have e1 : (redP a b).1 = p := by injection e with e; injection e with e e'; injection e
  have e2 : (redP a b).2 = q := by injection e with e; injection e with e e'; injection e' with e'; injection e'
  rw [e1, e2]; exact ⟨h1, h2, h⟩
theorem redP_scale {k a b : Int} (hk : 0 < k) (hb : 0 < b) : redP (k * a) (k * b) = redP a b := by
  have e := red_scale (a := a) hk hb
  rw [red_P, red_P] at e
  injection e with e
  injection e with e e'
  injection e' with e'
  injection e with e
  injection e' with e'
  exact Prod.ext e e'
theorem redP_self {p q : Int} (h : Fra p q) : redP p q = (p, q) := by
  unfold redP
  rw [h.one, Int.ediv_one, Int.ediv_one]
def addP (w p : Int × Int) : Int × Int := redP (w.1 * p.2 + p.1 * w.2) (w.2 * p.2)
def prodD : List (Int × Int) → Int
  | [] => 1
  | p :: l => p.2 * prodD l
theorem le_mul1 {a b : Int} (ha : 0 ≤ a) (hb : 1 ≤ b) : a ≤ a * b := by
  have := Int.mul_le_mul_of_nonneg_left hb ha
  rwa [Int.mul_one] at this
theorem prodD_pos : ∀ {l : List (Int × Int)}, (∀ p ∈ l, 0 < p.2) → 1 ≤ prodD l
  | [], _ => Int.le_refl _
  | p :: l, h => by
    have h1 := prodD_pos (l := l) fun q hq => h q (List.mem_cons_of_mem _ hq)
    have h2 := h p List.mem_cons_self
    have := le_mul1 (a := p.2) (by omega) h1
    unfold prodD
    omega
/-- what a turn of the sums leans on -/
theorem turn_ok {w p : Int × Int} {l : List (Int × Int)} (hw : 0 < w.2) (h : ∀ q ∈ p :: l, 0 < q.2) (hz : w.2 * prodD (p :: l) ≤ 4665600) : w.2 < 1073741824 ∧ 0 < p.2 ∧ p.2 < 1073741824 ∧ w.2 * p.2 < 1073741824 ∧ 0 < w.2 * p.2 ∧ 0 < (addP w p).2 ∧ (addP w p).2 * prodD l ≤ 4665600 := by
  have hp := h p List.mem_cons_self
  have hl := prodD_pos (l := l) fun q hq => h q (List.mem_cons_of_mem _ hq)
  have hwp : 0 < w.2 * p.2 := Int.mul_pos hw hp
  have e : w.2 * prodD (p :: l) = w.2 * p.2 * prodD l := by show w.2 * (p.2 * prodD l) = _; rw [Int.mul_assoc]
  rw [e] at hz
  have h1 := le_mul1 (a := w.2 * p.2) (by omega) hl
  have h2 := le_mul1 (a := w.2) (b := p.2) (by omega) (by omega)
  have h3 := le_mul1 (a := p.2) (b := w.2) (by omega) (by omega)
  rw [Int.mul_comm p.2 w.2] at h3
  have hr := redP_pos (a := w.1 * p.2 + p.1 * w.2) hwp
  have h4 := Int.mul_le_mul_of_nonneg_right hr.2 (show 0 ≤ prodD l by omega)
  exact ⟨by omega, hp, by omega, by omega, hwp, hr.1, by show (redP _ _).2 * _ ≤ _; omega⟩
theorem total_eq {l : List (Int × Int)} (hl : ∀ p ∈ l, 0 < p.2) (hz : prodD l ≤ 4665600) (st : List Cl) : m_total [.lst (l.map FF)] st = .ok (FF (l.foldl addP (0, 1))) ⟨[], st⟩ := by
  unfold m_total b_total
  rw [fnM_eq]
  obtain ⟨S2, e, l', w, o, e1, rfl, e2, _⟩ := for_nx (g := gNm 2) (b := sSet 1 (eCall 2 m_plus (aCons (eVar 1) (aCons (eVar 2) aNil))))
    (fun r S => ∃ l' w o, r = l'.map FF ∧ S = ⟨[.va (.lst (l.map FF)), .va (FF w), o], st⟩ ∧ l'.foldl addP w = l.foldl addP (0, 1) ∧ (∀ p ∈ l', 0 < p.2) ∧ 0 < w.2 ∧ w.2 * prodD l' ≤ 4665600)
    (l.map FF) ⟨[.va (.lst (l.map FF)), .va (FF (0, 1)), .un], st⟩ ⟨l, (0, 1), .un, rfl, rfl, rfl, hl, by decide, by simpa using hz⟩ (by
      rintro d r S ⟨l', w, o, er, rfl, ef, hp, hw, hb⟩
      cases l' with
      | nil => cases er
      | cons p l' =>
        cases er
        obtain ⟨h1, h2, h3, h4, h5, h6, h7⟩ := turn_ok hw hp hb
        refine ⟨_, ⟨[.va (.lst (l.map FF)), .va (FF (addP w p)), .va (FF p)], st⟩, rfl, ?_, l', addP w p, _, rfl, rfl, ef, fun q hq => hp q (List.mem_cons_of_mem _ hq), h6, h7⟩
        simp [callM, plus_eq hw h2 h4 h1 h3, red_P, addP])
  have e3 : l' = [] := by simpa using e1.symm
  subst e3
  have e2 : w = l.foldl addP (0, 1) := e2
  subst e2
  show fin (sSeq _ _ ⟨[.va (.lst (l.map FF)), .un, .un], st⟩) = _
  rw [seq_nx (S1 := ⟨[.va (.lst (l.map FF)), .va (FF (0, 1)), .un], st⟩) (by simp), seq_nx (S1 := ⟨[.va (.lst (l.map FF)), .va (FF (l.foldl addP (0, 1))), o], st⟩) (by simp [e])]
  simp
/-! ### order -/
def leP (x y : Int × Int) : Prop := x.1 * y.2 ≤ y.1 * x.2
instance (x y : Int × Int) : Decidable (leP x y) := inferInstanceAs (Decidable (x.1 * y.2 ≤ y.1 * x.2))
theorem leP_trans {x y z : Int × Int} (hx : 0 < x.2) (hy : 0 < y.2) (hz : 0 < z.2) (h1 : leP x y) (h2 : leP y z) : leP x z := by
  unfold leP at *
  have a := Int.mul_le_mul_of_nonneg_right h1 (Int.le_of_lt hz)
  have b := Int.mul_le_mul_of_nonneg_right h2 (Int.le_of_lt hx)
  have e1 : x.1 * y.2 * z.2 = y.2 * (x.1 * z.2) := by rw [Int.mul_comm x.1 y.2, Int.mul_assoc]
  have e2 : y.1 * x.2 * z.2 = y.1 * z.2 * x.2 := by rw [Int.mul_assoc, Int.mul_comm x.2 z.2, ← Int.mul_assoc]
  have e3 : z.1 * y.2 * x.2 = y.2 * (z.1 * x.2) := by rw [Int.mul_comm z.1 y.2, Int.mul_assoc]
  rw [e1, e2] at a
  rw [e3] at b
  exact Int.le_of_mul_le_mul_left (Int.le_trans a b) hy
theorem leP_total (x y : Int × Int) : leP x y ∨ leP y x := by unfold leP; omega
/-- a list that rises: what is not above x is its beginning -/
theorem rise_filter {x : Int × Int} : ∀ {l : List (Int × Int)}, (∀ p ∈ l, 0 < p.2) → 0 < x.2 → l.Pairwise leP → l.take (l.filter fun y => decide (leP y x)).length = l.filter (fun y => decide (leP y x)) ∧ ∀ y ∈ l.drop (l.filter fun y => decide (leP y x)).length, ¬ leP y x
  | [], _, _, _ => ⟨rfl, fun y h => by cases h⟩
  | a :: l, h, hx, hs => by
    obtain ⟨h1, h2⟩ := List.pairwise_cons.mp hs
    obtain ⟨i1, i2⟩ := rise_filter (fun p hp => h p (List.mem_cons_of_mem _ hp)) hx h2
    by_cases c : leP a x
    · rw [List.filter_cons_of_pos (by simpa using c)]
      exact ⟨by rw [List.length_cons, List.take_succ_cons, i1], i2⟩
    · have none : ∀ y ∈ l, ¬ leP y x := fun y hy q => c (leP_trans (h a List.mem_cons_self) (h y (List.mem_cons_of_mem _ hy)) hx (h1 y hy) q)
      have e : (a :: l).filter (fun y => decide (leP y x)) = [] := List.filter_eq_nil_iff.mpr fun y hy => by
        rcases List.mem_cons.mp hy with rfl | hy
        · simpa using c
        · simpa using none y hy
      rw [e]
      refine ⟨rfl, fun y hy => ?_⟩
      rcases List.mem_cons.mp hy with rfl | hy
      · exact c
      · exact none y hy
def ins (x : Int × Int) (l : List (Int × Int)) : List (Int × Int) := l.take (l.filter fun y => decide (leP y x)).length ++ [x] ++ l.drop (l.filter fun y => decide (leP y x)).length
theorem ins_rise {x : Int × Int} {l : List (Int × Int)} (h : ∀ p ∈ l, 0 < p.2) (hx : 0 < x.2) (hs : l.Pairwise leP) : (ins x l).Pairwise leP := by
  obtain ⟨h1, h2⟩ := rise_filter h hx hs
  have ht := hs
  rw [← List.take_append_drop (l.filter fun y => decide (leP y x)).length l] at ht
  obtain ⟨p1, p2, p3⟩ := List.pairwise_append.mp ht
  have lo : ∀ y ∈ l.take (l.filter fun y => decide (leP y x)).length, leP y x := fun y hy => by
    rw [h1] at hy
    simpa using (List.mem_filter.mp hy).2
  have hi : ∀ y ∈ l.drop (l.filter fun y => decide (leP y x)).length, leP x y := fun y hy => (leP_total x y).resolve_right (h2 y hy)
  unfold ins
  rw [List.append_assoc, List.pairwise_append]
  refine ⟨p1, ?_, fun a ha b hb => ?_⟩
  · rw [List.singleton_append, List.pairwise_cons]
    exact ⟨hi, p2⟩
  · rw [List.singleton_append] at hb
    rcases List.mem_cons.mp hb with rfl | hb
    · exact lo a ha
    · exact p3 a ha b hb
theorem ins_perm (x : Int × Int) (l : List (Int × Int)) : (ins x l).Perm (x :: l) := by
  unfold ins
  rw [List.append_assoc, List.singleton_append]
  refine List.perm_middle.trans ?_
  rw [List.take_append_drop]
end Prog
namespace Prog
open PySem PySem.Spec PyProof.Rows L2 Mir
def mBody : Stm := sSeq (sSet 3 (eBor [1] (eB (one lenO) (aCons (eFr (fLc [6] (iSeq (eVar 1)) (gNm 6) (tNotM (tOf (eCall 2 m_is_less (aCons (eVar 2) (aCons (eVar 6) aNil))))) (eVar 6))) aNil))))
  (sExpr (eMu (rfN 1) (aCons (eVar 3) (aCons (eVar 2) aNil)) muIns))
def okP (p : Int × Int) : Prop := 0 < p.2 ∧ p.2 < 1073741824
def pD (x : Int × Int) : D → Bool
  | .tup [.int a, .int b] => decide (leP (a, b) x)
  | _ => false
theorem mBody_eq {R0 o3 : Sl} {s : List (Int × Int)} {x : Int × Int} {st : List Cl} (h0 : R0.live = false) (h3 : o3.live = false) (hs : ∀ p ∈ s, okP p) (hx : okP x) (hl : s.length ≤ 100) :
    mBody ⟨[R0, .ol (s.map FF), .va (FF x), o3, .un, .un, .un], st⟩ = .ok .nx ⟨[R0, .ol ((ins x s).map FF), .va (FF x), .va (.int ((s.filter fun y => decide (leP y x)).length : Nat)), .un, .un, .un], st⟩ := by
  unfold mBody
  have hh : (⟨[R0, .ol (s.map FF), .va (FF x), o3, .un, .un, .un], st⟩ : MS).hide [1] = ⟨[R0, .va (.lst (s.map FF)), .va (FF x), o3, .un, .un, .un], st.map fun _ => .un⟩ := by
    simp [MS.hide, hideS, h0, h3, show ∀ ds, (Sl.ol ds).live = true from fun _ => rfl, show ∀ d, (Sl.va d).live = false from fun _ => rfl, show Sl.un.live = false from rfl, Sl.frz]
  have e := fLc_pure (k := 6) (its := iSeq (eVar 1)) (t := tNotM (tOf (eCall 2 m_is_less (aCons (eVar 2) (aCons (eVar 6) aNil))))) (e := eVar 6) (l := [R0, .va (.lst (s.map FF)), .va (FF x), o3, .un, .un, .un]) (st := st.map fun _ => .un) (st1 := st)
    (S := ⟨[R0, .va (.lst (s.map FF)), .va (FF x), o3, .un, .un, .un], st.map fun _ => .un⟩) (ds := s.map FF) (pD x) id (by simp) (by simp) rfl (fun d hd => by
      obtain ⟨p, hp, rfl⟩ := List.mem_map.mp hd
      have h := hs p hp
      have eb : (!decide (x.1 * p.2 < p.1 * x.2)) = pD x (FF p) := by
        show _ = decide (p.1 * x.2 ≤ x.1 * p.2)
        rw [Bool.eq_iff_iff]; simp
      simp only [tNotM_eq, tOf_eq, eCall_eq, aCons_eq, aNil_eq, eVar_eq]
      simp [callM, is_less_eq x.1 x.2 p.1 p.2 hx h, -decide_not, -Int.not_lt, ← eb]) (fun d hd hp => by simp) (by rw [sizeLine_eq, List.length_map]; omega)
  have ef : ((s.map FF).filter (pD x)).map id = (s.filter fun y => decide (leP y x)).map FF := by
    rw [List.map_id, List.filter_map]
    rfl
  rw [ef] at e
  have eb : eBor [1] (eB (one lenO) (aCons (eFr (fLc [6] (iSeq (eVar 1)) (gNm 6) (tNotM (tOf (eCall 2 m_is_less (aCons (eVar 2) (aCons (eVar 6) aNil))))) (eVar 6))) aNil)) ⟨[R0, .ol (s.map FF), .va (FF x), o3, .un, .un, .un], st⟩ =
      .ok (.int ((s.filter fun y => decide (leP y x)).length : Nat)) ⟨[R0, .ol (s.map FF), .va (FF x), o3, .un, .un, .un], st⟩ := by
    unfold eBor
    rw [hh]
    simp [e, D.flat]
  rw [seq_nx (S1 := ⟨[R0, .ol (s.map FF), .va (FF x), .va (.int ((s.filter fun y => decide (leP y x)).length : Nat)), .un, .un, .un], st⟩) (by rw [sSet_eq, eb]; simp)]
  have hc : (s.filter fun y => decide (leP y x)).length ≤ s.length := List.length_filter_le _ _
  have em : muIns (s.map FF) [.int ((s.filter fun y => decide (leP y x)).length : Nat), FF x] = some (.non, (ins x s).map FF) := by
    show (if (s.map FF).length < sizeLine ∧ 0 ≤ (((s.filter fun y => decide (leP y x)).length : Nat) : Int) ∧ (((s.filter fun y => decide (leP y x)).length : Nat) : Int) < 2 ^ 63 then _ else none) = _
    rw [if_pos (by rw [List.length_map, sizeLine_eq]; exact ⟨by omega, by omega, by have : (2 : Int) ^ 63 = 9223372036854775808 := by decide
                                                                                    omega⟩)]
    unfold ins
    simp [List.map_append, List.map_take, List.map_drop]
  rw [sExpr_eq]
  unfold eMu
  rw [show rfN 1 ⟨[R0, .ol (s.map FF), .va (FF x), .va (.int ((s.filter fun y => decide (leP y x)).length : Nat)), .un, .un, .un], st⟩ = .ok (.own 1) ⟨[R0, .ol (s.map FF), .va (FF x), .va (.int ((s.filter fun y => decide (leP y x)).length : Nat)), .un, .un, .un], st⟩ from rfl, bind_ok]
  show ((R.bind (aCons (eVar 3) (aCons (eVar 2) aNil) ⟨[R0, .ol (s.map FF), .va (FF x), .va (.int ((s.filter fun y => decide (leP y x)).length : Nat)), .un, .un, .un], st⟩) _).bind _) = _
  rw [show aCons (eVar 3) (aCons (eVar 2) aNil) ⟨[R0, .ol (s.map FF), .va (FF x), .va (.int ((s.filter fun y => decide (leP y x)).length : Nat)), .un, .un, .un], st⟩ = .ok [.int ((s.filter fun y => decide (leP y x)).length : Nat), FF x] ⟨[R0, .ol (s.map FF), .va (FF x), .va (.int ((s.filter fun y => decide (leP y x)).length : Nat)), .un, .un, .un], st⟩ from by simp, bind_ok]
  show (R.bind (match muIns (s.map FF) [.int ((s.filter fun y => decide (leP y x)).length : Nat), FF x] with | some (res, xs') => _ | none => _) _) = _
  rw [em]
  rfl
end Prog
namespace Prog
open PySem PySem.Spec PyProof.Rows L2 Mir
def okQ (p : Int × Int) : Prop := 0 < p.2 ∧ p.2 ≤ 60
theorem okQ.okP {p : Int × Int} (h : okQ p) : okP p := ⟨h.1, by have := h.2; omega⟩
def sortP (l : List (Int × Int)) : List (Int × Int) := l.foldl (fun s x => ins x s) []
theorem sort_aux (l : List (Int × Int)) : ∀ (s : List (Int × Int)), (∀ p ∈ l, 0 < p.2) → (∀ p ∈ s, 0 < p.2) → s.Pairwise leP → (l.foldl (fun s x => ins x s) s).Pairwise leP ∧ (l.foldl (fun s x => ins x s) s).Perm (s ++ l) := by
  induction l with
  | nil => intro s _ _ h; exact ⟨h, by rw [List.append_nil]; exact List.Perm.refl _⟩
  | cons x l ih =>
    intro s hl hs h
    have hx := hl x List.mem_cons_self
    have hp := ins_perm x s
    obtain ⟨i1, i2⟩ := ih (ins x s) (fun p hp => hl p (List.mem_cons_of_mem _ hp)) (fun p hq => by
      rcases List.mem_cons.mp (hp.mem_iff.mp hq) with rfl | hq
      · exact hx
      · exact hs p hq) (ins_rise hs hx h)
    refine ⟨i1, i2.trans ((List.Perm.append_right l hp).trans ?_)⟩
    rw [List.cons_append]
    exact List.perm_middle.symm
theorem sort_rise {l : List (Int × Int)} (h : ∀ p ∈ l, 0 < p.2) : (sortP l).Pairwise leP := (sort_aux l [] h (fun _ h => by cases h) List.Pairwise.nil).1
theorem sort_perm {l : List (Int × Int)} (h : ∀ p ∈ l, 0 < p.2) : (sortP l).Perm l := (sort_aux l [] h (fun _ h => by cases h) List.Pairwise.nil).2
def halfP (f g : Int × Int) : Int × Int := redP ((addP f g).1 * 1) ((addP f g).2 * 2)
theorem cut1 (d : D) (ds : List D) : cutL (d :: ds) (some 1) none = ds := by
  unfold cutL
  rw [show HT.sIx (d :: ds).length 0 (some 1) = 1 from by
    have := HT.sIx_nat (d :: ds).length 0 1
    rw [show ((1 : Nat) : Int) = 1 from rfl] at this
    rw [this, List.length_cons]
    omega]
  show ((d :: ds).drop 1).take ((d :: ds).length - 1) = ds
  simp
theorem median_eq {a : Int × Int} {l : List (Int × Int)} (hl : ∀ p ∈ a :: l, okQ p) (hz : l.length ≤ 90) (st : List Cl) : ∃ f g, (sortP (a :: l))[l.length / 2]? = some f ∧ (sortP (a :: l))[(l.length + 1) / 2]? = some g ∧
    m_median [.lst ((a :: l).map FF)] st = .ok (FF (halfP f g)) ⟨[], st⟩ := by
  have hp : ∀ p ∈ a :: l, 0 < p.2 := fun p h => (hl p h).1
  have perm := sort_perm hp
  have hlen : (sortP (a :: l)).length = l.length + 1 := by rw [perm.length_eq]; rfl
  have h1 : l.length / 2 < (sortP (a :: l)).length := by omega
  have h2 : (l.length + 1) / 2 < (sortP (a :: l)).length := by omega
  refine ⟨_, _, List.getElem?_eq_getElem h1, List.getElem?_eq_getElem h2, ?_⟩
  have qf := hl _ (perm.mem_iff.mp (List.getElem_mem h1))
  have qg := hl _ (perm.mem_iff.mp (List.getElem_mem h2))
  generalize hf : (sortP (a :: l))[l.length / 2] = f at qf
  generalize hg : (sortP (a :: l))[(l.length + 1) / 2] = g at qg
  unfold m_median b_median
  rw [fnM_eq]
  obtain ⟨S2, e, l', s, o2, o3, e1, rfl, e2, hd, hss, hls⟩ := for_nx (g := gNm 2) (b := mBody)
    (fun r S => ∃ l' s o2 o3, r = l'.map FF ∧ S = ⟨[.va (.lst ((a :: l).map FF)), .ol (s.map FF), o2, o3, .un, .un, .un], st⟩ ∧ l'.foldl (fun s x => ins x s) s = sortP (a :: l) ∧ o3.live = false ∧ (∀ p ∈ s ++ l', okQ p) ∧ s.length + l'.length ≤ 91)
    (l.map FF) ⟨[.va (.lst ((a :: l).map FF)), .ol ([a].map FF), .un, .un, .un, .un, .un], st⟩ ⟨l, [a], .un, .un, rfl, rfl, rfl, rfl, hl, by simp; omega⟩ (by
      rintro d r S ⟨l', s, o2, o3, er, rfl, ef, hd, hs, hz⟩
      cases l' with
      | nil => cases er
      | cons x l' =>
        cases er
        have hx := hs x (List.mem_append_right _ List.mem_cons_self)
        refine ⟨⟨[.va (.lst ((a :: l).map FF)), .ol (s.map FF), .va (FF x), o3, .un, .un, .un], st⟩, _, rfl, mBody_eq rfl hd (fun p hp => (hs p (List.mem_append_left _ hp)).okP) hx.okP (by rw [List.length_cons] at hz; omega), l', ins x s, _, _, rfl, rfl, ef, rfl, fun p hp => ?_, ?_⟩
        · rcases List.mem_append.mp hp with hp | hp
          · rcases List.mem_cons.mp ((ins_perm x s).mem_iff.mp hp) with rfl | hp
            · exact hx
            · exact hs p (List.mem_append_left _ hp)
          · exact hs p (List.mem_append_right _ (List.mem_cons_of_mem _ hp))
        · rw [(ins_perm x s).length_eq]
          simp only [List.length_cons] at hz ⊢
          omega)
  have e3 : l' = [] := by simpa using e1.symm
  subst e3
  have e2 : s = sortP (a :: l) := e2
  subst e2
  show fin (sSeq _ _ ⟨[.va (.lst ((a :: l).map FF)), .un, .un, .un, .un, .un, .un], st⟩) = _
  have i0 : ixO (.lst ((a :: l).map FF)) (.int 0) = some (FF a) := by
    have := Mir.atI_nat ((a :: l).map FF) 0
    exact this
  rw [seq_nx (S1 := ⟨[.va (.lst ((a :: l).map FF)), .ol ([a].map FF), .un, .un, .un, .un, .un], st⟩) (by
    rw [sOwn_eq, fLst_eq, aCons_eq, eBin_eq]
    simp only [eVar_eq, List.getElem?_cons_zero, bind_ok, eC_eq, i0, liftO_some, aNil_eq]
    simp)]
  have es : eSl (eVar 0) (pSome (eC (.int 1))) pNo ⟨[.va (.lst ((a :: l).map FF)), .ol ([a].map FF), .un, .un, .un, .un, .un], st⟩ = .ok (.lst (l.map FF)) ⟨[.va (.lst ((a :: l).map FF)), .ol ([a].map FF), .un, .un, .un, .un, .un], st⟩ := by
    show liftO _ (some (D.lst (cutL ((a :: l).map FF) (some 1) none))) = _
    rw [List.map_cons, cut1]
    rfl
  rw [seq_nx (S1 := ⟨[.va (.lst ((a :: l).map FF)), .ol ((sortP (a :: l)).map FF), o2, o3, .un, .un, .un], st⟩) (by
    rw [sFor_eq, iSeq_eq, es]
    exact e)]
  have a1 : ixO (.lst ((sortP (a :: l)).map FF)) (.int (l.length / 2 : Nat)) = some (FF f) := by
    show atI _ _ = _
    rw [Mir.atI_nat, List.getElem?_map, List.getElem?_eq_getElem h1, hf]; rfl
  have a2 : ixO (.lst ((sortP (a :: l)).map FF)) (.int ((l.length + 1) / 2 : Nat)) = some (FF g) := by
    show atI _ _ = _
    rw [Mir.atI_nat, List.getElem?_map, List.getElem?_eq_getElem h2, hg]; rfl
  have n1 : ((((sortP (a :: l)).map FF).length : Nat) : Int) = (l.length : Int) + 1 := by rw [List.length_map, hlen]; omega
  have d1 : fdivO (.int ((l.length : Int) + 1 - 1)) (.int 2) = some (.int (l.length / 2 : Nat)) := by
    rw [fdiv_ii (by omega) (by omega)]
    congr 2
    omega
  have d2 : fdivO (.int ((l.length : Int) + 1)) (.int 2) = some (.int ((l.length + 1) / 2 : Nat)) := by
    rw [fdiv_ii (by omega) (by omega)]
    congr 2
  rw [seq_nx (S1 := ⟨[.va (.lst ((a :: l).map FF)), .va (.lst ((sortP (a :: l)).map FF)), o2, o3, .va (FF f), .va (FF g), .un], st⟩) (by
    rw [sPar2_eq, aCons_eq, eBin_eq]
    simp only [eVar_eq, List.getElem?_cons_zero, List.getElem?_cons_succ, bind_ok, eBin_eq, eB_eq, aCons_eq, aNil_eq, one_1, len_l, liftO_some, eC_eq, sub_ii, n1, d1, d2, a1, a2, List.set_cons_succ, List.set_cons_zero]
    simp)]
  have b1 : f.2 * g.2 ≤ 3600 := Int.le_trans (Int.mul_le_mul_of_nonneg_right qf.2 (by have := qg.1; omega)) (by have := qg.2; omega)
  have b2 : 0 < f.2 * g.2 := Int.mul_pos qf.1 qg.1
  have r1 := redP_pos (a := f.1 * g.2 + g.1 * f.2) b2
  have p1 : m_plus [FF f, FF g] st = .ok (FF (addP f g)) ⟨[], st⟩ := by
    rw [plus_eq qf.1 qg.1 (by omega) qf.okP.2 qg.okP.2, red_P]; rfl
  have hw : 0 < (addP f g).2 ∧ (addP f g).2 ≤ 3600 := ⟨r1.1, Int.le_trans r1.2 b1⟩
  have p2 : m_times [FF (addP f g), F2 1 2] st = .ok (FF (halfP f g)) ⟨[], st⟩ := by
    rw [times_eq hw.1 (by omega) (by omega) (by omega) (by omega), red_P]; rfl
  rw [sRet_eq]
  simp [callM, p1, p2]
end Prog
namespace Prog
open PySem PySem.Spec PyProof.Rows L2 Mir
theorem half_le {f g : Int × Int} (hf : 0 < f.2) (hg : 0 < g.2) (h : leP f g) : 0 < (halfP f g).2 ∧ leP f (halfP f g) ∧ leP (halfP f g) g := by
  have hD : 0 < f.2 * g.2 := Int.mul_pos hf hg
  obtain ⟨e1, e2, w⟩ := redP_spec (a := f.1 * g.2 + g.1 * f.2) hD
  have hk := gg_pos (a := f.1 * g.2 + g.1 * f.2) hD
  generalize gg (f.1 * g.2 + g.1 * f.2) (f.2 * g.2) = k at e1 e2 hk
  have ew : redP (f.1 * g.2 + g.1 * f.2) (f.2 * g.2) = addP f g := rfl
  rw [ew] at e1 e2 w
  have hw2 : 0 < (addP f g).2 * 2 := by have := w.pos; omega
  obtain ⟨e3, e4, u⟩ := redP_spec (a := (addP f g).1 * 1) hw2
  have hm := gg_pos (a := (addP f g).1 * 1) hw2
  generalize gg ((addP f g).1 * 1) ((addP f g).2 * 2) = m at e3 e4 hm
  have eh : redP ((addP f g).1 * 1) ((addP f g).2 * 2) = halfP f g := rfl
  rw [eh] at e3 e4 u
  generalize halfP f g = h0 at e3 e4 u ⊢
  generalize addP f g = w0 at e1 e2 e3 e4 w
  have hmk : 0 < m * k := Int.mul_pos hm hk
  unfold leP at h ⊢
  -- what stands behind h0
  have x1 : m * k * h0.1 = f.1 * g.2 + g.1 * f.2 := by
    rw [e1, ← Int.mul_one w0.1, e3]; ac_rfl
  have x2 : m * k * h0.2 = 2 * (f.2 * g.2) := by
    rw [e2]
    have : k * (w0.2 * 2) = k * (m * h0.2) := by rw [e4]
    have y : k * (w0.2 * 2) = 2 * (k * w0.2) := by ac_rfl
    rw [← y, this]; ac_rfl
  refine ⟨u.pos, Int.le_of_mul_le_mul_left (a := m * k) ?_ hmk, Int.le_of_mul_le_mul_left (a := m * k) ?_ hmk⟩
  · have z1 : m * k * (f.1 * h0.2) = f.1 * g.2 * f.2 + f.1 * g.2 * f.2 := by
      have : m * k * (f.1 * h0.2) = f.1 * (m * k * h0.2) := by ac_rfl
      rw [this, x2]
      have : f.1 * (2 * (f.2 * g.2)) = 2 * (f.1 * g.2 * f.2) := by ac_rfl
      rw [this]; omega
    have z2 : m * k * (h0.1 * f.2) = f.1 * g.2 * f.2 + g.1 * f.2 * f.2 := by
      rw [← Int.mul_assoc, x1, Int.add_mul]
    rw [z1, z2]
    have := Int.mul_le_mul_of_nonneg_right h (Int.le_of_lt hf)
    omega
  · have z1 : m * k * (h0.1 * g.2) = f.1 * g.2 * g.2 + g.1 * f.2 * g.2 := by
      rw [← Int.mul_assoc, x1, Int.add_mul]
    have z2 : m * k * (g.1 * h0.2) = g.1 * f.2 * g.2 + g.1 * f.2 * g.2 := by
      have : m * k * (g.1 * h0.2) = g.1 * (m * k * h0.2) := by ac_rfl
      rw [this, x2]
      have : g.1 * (2 * (f.2 * g.2)) = 2 * (g.1 * f.2 * g.2) := by ac_rfl
      rw [this]; omega
    rw [z1, z2]
    have := Int.mul_le_mul_of_nonneg_right h (Int.le_of_lt hg)
    omega
theorem half_self {f : Int × Int} (h : Fra f.1 f.2) : halfP f f = f := by
  have hf := h.pos
  have e0 : addP f f = redP (2 * f.1) f.2 := by
    show redP (f.1 * f.2 + f.1 * f.2) (f.2 * f.2) = _
    have : f.1 * f.2 + f.1 * f.2 = f.2 * (2 * f.1) := by
      have : f.2 * (2 * f.1) = 2 * (f.1 * f.2) := by ac_rfl
      omega
    rw [this, redP_scale hf hf]
  obtain ⟨e1, e2, w⟩ := redP_spec (a := 2 * f.1) hf
  have hk := gg_pos (a := 2 * f.1) hf
  rw [← e0] at e1 e2 w
  generalize gg (2 * f.1) f.2 = k at e1 e2 hk
  show redP ((addP f f).1 * 1) ((addP f f).2 * 2) = f
  have hw2 : 0 < (addP f f).2 * 2 := by have := w.pos; omega
  rw [← redP_scale hk hw2]
  have a1 : k * ((addP f f).1 * 1) = 2 * f.1 := by rw [e1, Int.mul_one]
  have a2 : k * ((addP f f).2 * 2) = 2 * f.2 := by
    have : k * ((addP f f).2 * 2) = 2 * (k * (addP f f).2) := by ac_rfl
    rw [this, ← e2]
  rw [a1, a2, redP_scale (by omega) hf, redP_self h]
/-- the middle's place among the rows -/
theorem mid_ok {a : Int × Int} {l : List (Int × Int)} (hl : ∀ p ∈ a :: l, okQ p ∧ Fra p.1 p.2) {f g : Int × Int} (ef : (sortP (a :: l))[l.length / 2]? = some f) (eg : (sortP (a :: l))[(l.length + 1) / 2]? = some g) :
    0 < (halfP f g).2 ∧ 2 * ((a :: l).filter fun y => decide (¬ leP (halfP f g) y)).length ≤ l.length + 1 ∧ 2 * ((a :: l).filter fun y => decide (¬ leP y (halfP f g))).length ≤ l.length + 1 ∧ ((l.length + 1) % 2 = 1 → halfP f g ∈ a :: l) := by
  have hp : ∀ p ∈ a :: l, 0 < p.2 := fun p h => (hl p h).1.1
  have perm := sort_perm hp
  have rise := sort_rise hp
  have hlen : (sortP (a :: l)).length = l.length + 1 := by rw [perm.length_eq]; rfl
  have pos : ∀ y ∈ sortP (a :: l), 0 < y.2 := fun y h => hp y (perm.mem_iff.mp h)
  generalize sortP (a :: l) = s at ef eg perm rise hlen pos
  obtain ⟨h1, ef⟩ := List.getElem?_eq_some_iff.mp ef
  obtain ⟨h2, eg⟩ := List.getElem?_eq_some_iff.mp eg
  have at_le : ∀ (i j : Nat) (hi : i < s.length) (hj : j < s.length), i ≤ j → leP s[i] s[j] := fun i j hi hj h => by
    rcases Nat.lt_or_ge i j with c | c
    · exact List.pairwise_iff_getElem.mp rise i j hi hj c
    · have : i = j := by omega
      subst this
      unfold leP; omega
  have hfg : leP f g := by rw [← ef, ← eg]; exact at_le _ _ h1 h2 (by omega)
  have pf : 0 < f.2 := pos f (ef ▸ List.getElem_mem h1)
  have pg : 0 < g.2 := pos g (eg ▸ List.getElem_mem h2)
  obtain ⟨pm, m1, m2⟩ := half_le pf pg hfg
  have cnt : ∀ p : Int × Int → Bool, ((a :: l).filter p).length = (s.filter p).length := fun p => (perm.filter p).length_eq.symm
  refine ⟨pm, ?_, ?_, fun odd => ?_⟩
  · rw [cnt]
    have e : s.filter (fun y => decide (¬ leP (halfP f g) y)) = (s.take ((l.length + 1) / 2)).filter fun y => decide (¬ leP (halfP f g) y) := by
      conv => lhs; rw [← List.take_append_drop ((l.length + 1) / 2) s]
      rw [List.filter_append, (List.filter_eq_nil_iff (l := s.drop ((l.length + 1) / 2))).mpr (fun y hy => ?_), List.append_nil]
      obtain ⟨j, hj, rfl⟩ := List.getElem_of_mem hy
      rw [List.length_drop] at hj
      rw [List.getElem_drop]
      have := leP_trans pm pg (pos _ (List.getElem_mem (show (l.length + 1) / 2 + j < s.length by omega))) m2 (by rw [← eg]; exact at_le _ _ h2 (by omega) (by omega))
      simpa using this
    rw [e]
    have := List.length_filter_le (fun y => decide (¬ leP (halfP f g) y)) (s.take ((l.length + 1) / 2))
    rw [List.length_take] at this
    omega
  · rw [cnt]
    have e : s.filter (fun y => decide (¬ leP y (halfP f g))) = (s.drop (l.length / 2 + 1)).filter fun y => decide (¬ leP y (halfP f g)) := by
      conv => lhs; rw [← List.take_append_drop (l.length / 2 + 1) s]
      rw [List.filter_append, (List.filter_eq_nil_iff (l := s.take (l.length / 2 + 1))).mpr (fun y hy => ?_), List.nil_append]
      obtain ⟨j, hj, rfl⟩ := List.getElem_of_mem hy
      rw [List.length_take] at hj
      rw [List.getElem_take]
      have := leP_trans (pos _ (List.getElem_mem (show j < s.length by omega))) pf pm (by rw [← ef]; exact at_le _ _ (by omega) h1 (by omega)) m1
      simpa using this
    rw [e]
    have := List.length_filter_le (fun y => decide (¬ leP y (halfP f g))) (s.drop (l.length / 2 + 1))
    rw [List.length_drop] at this
    omega
  · have : l.length / 2 = (l.length + 1) / 2 := by omega
    have efg : f = g := by rw [← ef, ← eg]; congr 1
    subst efg
    have hm : f ∈ a :: l := perm.mem_iff.mp (ef ▸ List.getElem_mem h1)
    rw [half_self (hl f hm).2]
    exact hm
/-- the sums of a and b over what they come from -/
theorem cross {a b c d : Int} (hb : 0 < b) (hd : 0 < d) : ∃ k, 0 < k ∧ a * d + c * b = k * ((redP a b).1 * (redP c d).2 + (redP c d).1 * (redP a b).2) ∧ a * d - c * b = k * ((redP a b).1 * (redP c d).2 - (redP c d).1 * (redP a b).2) ∧
    b * d = k * ((redP a b).2 * (redP c d).2) ∧ a * c = k * ((redP a b).1 * (redP c d).1) ∧ a * d = k * ((redP a b).1 * (redP c d).2) ∧ b * c = k * ((redP a b).2 * (redP c d).1) ∧ c * b = k * ((redP c d).1 * (redP a b).2) := by
  obtain ⟨e1, e2, _⟩ := redP_spec (a := a) hb
  obtain ⟨e3, e4, _⟩ := redP_spec (a := c) hd
  have h1 := gg_pos (a := a) hb
  have h2 := gg_pos (a := c) hd
  generalize redP a b = x at *
  generalize redP c d = y at *
  generalize gg a b = g at *
  generalize gg c d = h at *
  subst e1 e2 e3 e4
  refine ⟨g * h, Int.mul_pos h1 h2, ?_, ?_, by ac_rfl, by ac_rfl, by ac_rfl, by ac_rfl, by ac_rfl⟩
  · rw [Int.mul_add]; congr 1 <;> ac_rfl
  · rw [Int.mul_sub]; congr 1 <;> ac_rfl
end Prog
namespace Prog
open PySem PySem.Spec PyProof.Rows L2 Mir
theorem intsOf_map' : ∀ ns : List Int, intsOf (ns.map D.int) = some ns
  | [] => rfl
  | n :: ns => by show (intsOf (ns.map D.int)).map (n :: ·) = _; rw [intsOf_map' ns]; rfl
theorem maxL_is {L : List Int} {m : Int} (hm : m ∈ L) (hle : ∀ x ∈ L, x ≤ m) : maxO (.lst (L.map D.int)) = some (.int m) := by
  cases L with
  | nil => cases hm
  | cons n ns =>
    show (match intsOf ((n :: ns).map D.int) with | some (n :: ns) => some (D.int (maxL (n :: ns))) | _ => none) = _
    rw [intsOf_map']
    show some (D.int (maxL (n :: ns))) = _
    have := maxL_spec (ns := n :: ns) (by simp)
    have h1 := hle _ this.1
    have h2 := this.2 m hm
    have : maxL (n :: ns) = m := by omega
    rw [this]
theorem minL_is {L : List Int} {m : Int} (hm : m ∈ L) (hle : ∀ x ∈ L, m ≤ x) : minO (.lst (L.map D.int)) = some (.int m) := by
  cases L with
  | nil => cases hm
  | cons n ns =>
    show (match intsOf ((n :: ns).map D.int) with | some (n :: ns) => some (D.int (minL (n :: ns))) | _ => none) = _
    rw [intsOf_map']
    show some (D.int (minL (n :: ns))) = _
    have := minL_spec (ns := n :: ns) (by simp)
    have h1 := hle _ this.1
    have h2 := this.2 m hm
    have : minL (n :: ns) = m := by omega
    rw [this]
def intsR (lo : Int) (n : Nat) : List Int := (List.range n).map fun i => lo + (i : Nat)
theorem rngD_intsR (lo : Int) (n : Nat) : rngD lo n = (intsR lo n).map D.int := by unfold rngD intsR; rw [List.map_map]; rfl
theorem mem_intsR {lo k : Int} {n : Nat} : k ∈ intsR lo n ↔ lo ≤ k ∧ k < lo + n := by
  unfold intsR
  rw [List.mem_map]
  constructor
  · rintro ⟨i, hi, rfl⟩
    have := List.mem_range.mp hi
    omega
  · intro h
    exact ⟨(k - lo).toNat, List.mem_range.mpr (by omega), by omega⟩
def pI (p : Int → Bool) : D → Bool
  | .int k => p k
  | _ => false
theorem filter_intsR (p : Int → Bool) (lo : Int) (n : Nat) : ((rngD lo n).filter (pI p)).map id = ((intsR lo n).filter p).map D.int := by
  rw [rngD_intsR, List.map_id, List.filter_map]
  rfl
/-! ### the alike of fractions -/
theorem alike_FF (n : Nat) (p : Int × Int) (st : List Cl) : m_law_alike (n + 2) [FF p, FF p] st = .ok (.bl true) ⟨[], st⟩ :=
  alike_tup (n + 1) _ st (fun x hx => by
    rcases List.mem_cons.mp hx with rfl | hx
    · exact alike_int n _ st
    · rw [List.mem_singleton.mp hx]; exact alike_int n _ st) (by show 2 ≤ 1000; omega)
theorem alike_FFs (l : List (Int × Int)) (hl : l.length ≤ 1000) (st : List Cl) : m_law_alike 30 [.tup (l.map FF), .tup (l.map FF)] st = .ok (.bl true) ⟨[], st⟩ :=
  alike_tup 29 _ st (fun x hx => by
    obtain ⟨p, _, rfl⟩ := List.mem_map.mp hx
    exact alike_FF 27 p st) (by rw [List.length_map]; exact hl)
theorem alike_ints (l : List Int) (hl : l.length ≤ 1000) (st : List Cl) : m_law_alike 30 [.tup (l.map D.int), .tup (l.map D.int)] st = .ok (.bl true) ⟨[], st⟩ :=
  alike_tup 29 _ st (fun x hx => by
    obtain ⟨p, _, rfl⟩ := List.mem_map.mp hx
    exact alike_int 28 p st) (by rw [List.length_map]; exact hl)
theorem truth_eq (b : Bool) (st : List Cl) : m_law_truth [.bl b, .bl b] st = .ok (.bl true) ⟨[], st⟩ := by
  unfold m_law_truth b_law_truth
  rw [fnM_eq]
  simp [show isiG "bool" (.bl b) = some (.bl true) from rfl]
theorem small_of {g x : Int} (hg : 0 < g) (h1 : -60 ≤ g * x) (h2 : g * x ≤ 60) : -60 ≤ x ∧ x ≤ 60 := by
  constructor
  · rcases Int.lt_or_le x 0 with h | h
    · have := Int.mul_le_mul_of_nonpos_right (show 1 ≤ g by omega) (show x ≤ 0 by omega)
      omega
    · omega
  · rcases Int.lt_or_le x 0 with h | h
    · omega
    · have := Int.mul_le_mul_of_nonneg_right (show 1 ≤ g by omega) h
      omega
/-- rows drawn from the script -/
def rTest : Exp := eCall 2 m_reduced (aCons (eBin subO (eCall 2 m_law_taken (aCons (eVar 1) (aCons (eC (.int 40)) aNil))) (eC (.int 20))) (aCons (eBin addO (eC (.int 1)) (eCall 2 m_law_taken (aCons (eVar 1) (aCons (eC (.int 6)) aNil)))) aNil))
def okR (p : Int × Int) : Prop := 0 < p.2 ∧ p.2 ≤ 6 ∧ Fra p.1 p.2
theorem rows_eq (ns : List Int) {l : List Sl} (h1 : l[1]? = some (.va (.cel 0))) (h18 : 18 < l.length) (hw : wipeL l [18] = l) : ∀ (ds : List D) (acc : List D) (p s r : Int), 0 ≤ p → acc.length + ds.length ≤ 1000 →
    ∃ (L : List (Int × Int)) (p' s' r' : Int), 0 ≤ p' ∧ L.length = ds.length ∧ (∀ x ∈ L, okR x) ∧ lcL [18] (gNm 18) tYesM rTest ds ⟨l, [row ns p s r]⟩ acc = .ok (acc ++ L.map FF) ⟨l, [row ns p' s' r']⟩
  | [], acc, p, s, r, hp, _ => ⟨[], p, s, r, hp, rfl, (fun _ h => by cases h), by simp [lcL]⟩
  | d :: ds, acc, p, s, r, hp, hz => by
    obtain ⟨k1, p1, s1, r1, t1, a1, a2, a3⟩ := taken_eq ns p s r 40 hp (by omega) (by omega)
    obtain ⟨k2, p2, s2, r2, t2, b1, b2, b3⟩ := taken_eq ns p1 s1 r1 6 a3 (by omega) (by omega)
    have hq := redP_pos (a := k1 - 20) (b := 1 + k2) (by omega)
    have hf := (redP_spec (a := k1 - 20) (b := 1 + k2) (by omega)).2.2
    rw [List.length_cons] at hz
    obtain ⟨L, p', s', r', c1, c2, c3, c4⟩ := rows_eq ns h1 h18 hw ds (acc ++ [FF (redP (k1 - 20) (1 + k2))]) p2 s2 r2 b3 (by rw [List.length_append, List.length_singleton]; omega)
    refine ⟨redP (k1 - 20) (1 + k2) :: L, p', s', r', c1, by rw [List.length_cons, List.length_cons, c2], fun x hx => ?_, ?_⟩
    · rcases List.mem_cons.mp hx with rfl | hx
      · exact ⟨hq.1, by omega, hf⟩
      · exact c3 x hx
    · have g1 : (l.set 18 (.va d))[1]? = some (.va (.cel 0)) := by rw [List.getElem?_set_ne (by omega)]; exact h1
      have et : rTest ⟨l.set 18 (.va d), [row ns p s r]⟩ = .ok (FF (redP (k1 - 20) (1 + k2))) ⟨l.set 18 (.va d), [row ns p2 s2 r2]⟩ := by
        unfold rTest
        simp [g1, callM, t1, t2, reduced_eq (k1 - 20) (1 + k2) (by omega) (by omega), red_P]
      have w : (⟨l.set 18 (.va d), [row ns p2 s2 r2]⟩ : MS).wipe [18] = ⟨l, [row ns p2 s2 r2]⟩ := by
        show (⟨(l.set 18 (.va d)).set 18 .un, _⟩ : MS) = _
        rw [List.set_set]
        exact congrArg (fun l => (⟨l, [row ns p2 s2 r2]⟩ : MS)) hw
      unfold lcL
      simp only [gNm_eq, if_pos (show 18 < (⟨l, [row ns p s r]⟩ : MS).env.length from h18), put_eq]
      simp only [show tYesM ⟨l.set 18 (.va d), [row ns p s r]⟩ = .ok true ⟨l.set 18 (.va d), [row ns p s r]⟩ from rfl, et]
      rw [if_pos (by rw [sizeLine_eq]; omega), w, c4]
      simp
theorem prod_rows {O P : Int × Int} {L : List (Int × Int)} (hO : okQ O) (hP : okQ P) (hL : ∀ x ∈ L, okR x) (hl : L.length ≤ 4) : prodD (O :: P :: L) ≤ 4665600 := by
  have key : ∀ (L : List (Int × Int)), (∀ x ∈ L, okR x) → 0 < prodD L ∧ prodD L ≤ 6 ^ L.length := by
    intro L
    induction L with
    | nil => intro _; exact ⟨by decide, by decide⟩
    | cons x L ih =>
      intro h
      obtain ⟨i1, i2⟩ := ih fun y hy => h y (List.mem_cons_of_mem _ hy)
      have hx := h x List.mem_cons_self
      refine ⟨Int.mul_pos hx.1 i1, ?_⟩
      show x.2 * prodD L ≤ 6 ^ (L.length + 1)
      rw [Int.pow_succ, Int.mul_comm (6 ^ L.length) 6]
      exact Int.mul_le_mul hx.2.1 i2 (by omega) (by omega)
  obtain ⟨k1, k2⟩ := key L hL
  have k3 : (6 : Int) ^ L.length ≤ 1296 := by
    have : L.length = 0 ∨ L.length = 1 ∨ L.length = 2 ∨ L.length = 3 ∨ L.length = 4 := by omega
    rcases this with h | h | h | h | h <;> rw [h] <;> decide
  show O.2 * (P.2 * prodD L) ≤ _
  have h1 : P.2 * prodD L ≤ 60 * 1296 := Int.mul_le_mul hP.2 (by omega) (by omega) (by omega)
  have h2 : O.2 * (P.2 * prodD L) ≤ 60 * (60 * 1296) := Int.mul_le_mul hO.2 h1 (Int.le_of_lt (Int.mul_pos hP.1 k1)) (by omega)
  omega
/-- what is in the rows -/
theorem FF_ok (p : Int × Int) (n : Nat) : (FF p).ok (n + 1) = true := by simp [D.ok, D.okL]
theorem FFs_ok (n : Nat) : ∀ l : List (Int × Int), D.okL (l.map FF) (n + 1) = true
  | [] => by simp [D.okL]
  | p :: l => by
    show ((FF p).ok (n + 1) && D.okL (l.map FF) (n + 1)) = true
    rw [FF_ok, FFs_ok n l]; rfl
theorem notIn_eq {m : Int × Int} {l : List (Int × Int)} (h : m ∈ l) : notInO (FF m) (.lst (l.map FF)) = some (.bl false) := by
  show (if (FF m).ok 60 && (D.lst (l.map FF)).ok 60 then some (D.bl (!(D.pyL (l.map FF)).any fun z => PyData.eqv z (FF m).py)) else none) = _
  have e1 : ((FF m).ok 60 && (D.lst (l.map FF)).ok 60) = true := by
    rw [FF_ok m 59]
    show (D.lst (l.map FF)).ok 60 = true
    rw [D.ok]
    exact FFs_ok 58 l
  rw [if_pos e1]
  have e2 : ((D.pyL (l.map FF)).any fun z => PyData.eqv z (FF m).py) = true := by
    induction l with
    | nil => cases h
    | cons p l ih =>
      rw [List.map_cons, D.pyL, List.any_cons]
      rcases List.mem_cons.mp h with rfl | h
      · have : PyData.eqv (FF m).py (FF m).py = true := by simp [D.py, D.pyL, PyData.eqv, PyData.eqvAll]
        rw [this]; rfl
      · rw [ih h (by
          rw [FF_ok m 59]
          show (D.lst (l.map FF)).ok 60 = true
          rw [D.ok]
          exact FFs_ok 58 l), Bool.or_true]
  rw [e2]; rfl
/-! ### want_fraction of a list -/
theorem want_list {p q : Int} (h : Fra p q) (hq : q < 1073741824) (st : List Cl) : m_want_fraction [.lst [.int p, .int q]] st = .ok (F2 p q) ⟨[], st⟩ := by
  have hp := h.pos
  have e : m_is_fraction [.lst [.int p, .int q]] st = .ok (.bl true) ⟨[], st⟩ := by
    unfold m_is_fraction b_is_fraction
    rw [fnM_eq]
    have i0 : ixO (.lst [.int p, .int q]) (.int 0) = some (.int p) := rfl
    have i1 : ixO (.lst [.int p, .int q]) (.int 1) = some (.int q) := rfl
    simp [callM, is_row_l, is_whole_eq, i0, i1, reduced_eq p q hp hq, red_self h, eq_F2, show ¬ q < 1 by omega]
  unfold m_want_fraction b_want_fraction
  rw [fnM_eq]
  simp [callM, e, show ∀ ds, tupleO (.lst ds) = some (.tup ds) from fun _ => rfl]
end Prog
namespace Prog
open PySem PySem.Spec PyProof.Rows L2 Mir
/-! ### the law by statements -/
def w1 : Stm := (sSet 1 (eCel (fLst (aCons (eVar 0) (aCons (eC (.int 0)) (aCons (eC (.int 61)) (aCons (eC (.int 0)) aNil)))))))
def w2 : Stm := (sAsg (gTp 4 (gsCons (gNm 2) (gsCons (gNm 3) (gsCons (gNm 4) (gsCons (gNm 5) gsNil))))) (eTup (aCons (eBin subO (eCall 2 m_law_taken (aCons (eVar 1) (aCons (eC (.int 121)) aNil))) (eC (.int 60))) (aCons (eBin addO (eC (.int 1)) (eCall 2 m_law_taken (aCons (eVar 1) (aCons (eC (.int 60)) aNil)))) (aCons (eBin subO (eCall 2 m_law_taken (aCons (eVar 1) (aCons (eC (.int 121)) aNil))) (eC (.int 60))) (aCons (eBin addO (eC (.int 1)) (eCall 2 m_law_taken (aCons (eVar 1) (aCons (eC (.int 60)) aNil)))) aNil))))))
def w3 : Stm := (sPar2 6 7 (aCons (eCall 2 m_reduced (aCons (eVar 2) (aCons (eVar 3) aNil))) (aCons (eCall 2 m_reduced (aCons (eVar 4) (aCons (eVar 5) aNil))) aNil)))
def w4 : Stm := (sIf (tOrM (tNotM (tOf (eCall 2 (m_law_alike 30) (aCons (eTup (aCons (eVar 6) (aCons (eVar 7) aNil))) (aCons (eTup (aCons (eCall 2 m_law_low (aCons (eVar 2) (aCons (eVar 3) aNil))) (aCons (eCall 2 m_law_low (aCons (eVar 4) (aCons (eVar 5) aNil))) aNil))) aNil))))) (tOrM (tNotM (tOf (eCall 1 m_is_fraction (aCons (eVar 6) aNil)))) (tOf (eCall 1 m_is_fraction (aCons (eTup (aCons (eBin mulO (eVar 2) (eC (.int 2))) (aCons (eBin mulO (eVar 3) (eC (.int 2))) aNil))) aNil))))) (sRet (eC (.bl false))) sNil)
def w5 : Stm := (sIf (tNotM (tOf (eCall 2 (m_law_alike 30) (aCons (eTup (aCons (eCall 2 m_plus (aCons (eVar 6) (aCons (eVar 7) aNil))) (aCons (eCall 2 m_minus (aCons (eVar 6) (aCons (eVar 7) aNil))) (aCons (eCall 2 m_times (aCons (eVar 6) (aCons (eVar 7) aNil))) aNil)))) (aCons (eTup (aCons (eCall 2 m_law_low (aCons (eBin addO (eBin mulO (eVar 2) (eVar 5)) (eBin mulO (eVar 4) (eVar 3))) (aCons (eBin mulO (eVar 3) (eVar 5)) aNil))) (aCons (eCall 2 m_law_low (aCons (eBin subO (eBin mulO (eVar 2) (eVar 5)) (eBin mulO (eVar 4) (eVar 3))) (aCons (eBin mulO (eVar 3) (eVar 5)) aNil))) (aCons (eCall 2 m_law_low (aCons (eBin mulO (eVar 2) (eVar 4)) (aCons (eBin mulO (eVar 3) (eVar 5)) aNil))) aNil)))) aNil))))) (sRet (eC (.bl false))) sNil)
def w6 : Stm := (sIf (tOrM (tAndM (tOf (eBin gtO (eVar 4) (eC (.int 0)))) (tNotM (tOf (eCall 2 (m_law_alike 30) (aCons (eCall 2 m_over (aCons (eVar 6) (aCons (eVar 7) aNil))) (aCons (eCall 2 m_law_low (aCons (eBin mulO (eVar 2) (eVar 5)) (aCons (eBin mulO (eVar 3) (eVar 4)) aNil))) aNil)))))) (tNotM (tOf (eCall 2 m_law_truth (aCons (eCall 2 m_is_less (aCons (eVar 6) (aCons (eVar 7) aNil))) (aCons (eBin ltO (eBin mulO (eVar 2) (eVar 5)) (eBin mulO (eVar 4) (eVar 3))) aNil)))))) (sRet (eC (.bl false))) sNil)
def w7 : Stm := (sSet 8 (eFr (fLR2 (eUn negO (eC (.int 61))) (eC (.int 62)))))
def w8 : Stm := (sPar2 9 10 (aCons (eB (oneTwo maxO max2) (aCons (eFr (fLc [18] (iSeq (eVar 8)) (gNm 18) (tOf (eBin leO (eBin mulO (eVar 18) (eVar 3)) (eVar 2))) (eVar 18))) aNil)) (aCons (eB (oneTwo minO min2) (aCons (eFr (fLc [18] (iSeq (eVar 8)) (gNm 18) (tOf (eBin geO (eBin mulO (eVar 18) (eVar 3)) (eVar 2))) (eVar 18))) aNil)) aNil)))
def w9 : Stm := (sSet 11 (eB (oneTwo maxO max2) (aCons (eFr (fLc [18] (iSeq (eVar 8)) (gNm 18) (tOf (eBin leO (eBin mulO (eBin subO (eBin mulO (eC (.int 2)) (eVar 18)) (eC (.int 1))) (eVar 3)) (eBin mulO (eC (.int 2)) (eVar 2)))) (eVar 18))) aNil)))
def w10 : Stm := (sIf (tNotM (tOf (eCall 2 (m_law_alike 30) (aCons (eTup (aCons (eCall 1 m_floor_of (aCons (eVar 6) aNil)) (aCons (eCall 1 m_ceiling_of (aCons (eVar 6) aNil)) (aCons (eCall 1 m_nearest (aCons (eVar 6) aNil)) aNil)))) (aCons (eTup (aCons (eVar 9) (aCons (eVar 10) (aCons (eVar 11) aNil)))) aNil))))) (sRet (eC (.bl false))) sNil)
def w11 : Stm := (sPar2 12 13 (aCons (eBin addO (eLst (aCons (eVar 6) (aCons (eVar 7) aNil))) (eFr (fLc [18] (iRange1 (aCons (eCall 2 m_law_taken (aCons (eVar 1) (aCons (eC (.int 5)) aNil))) aNil)) (gNm 18) tYesM (eCall 2 m_reduced (aCons (eBin subO (eCall 2 m_law_taken (aCons (eVar 1) (aCons (eC (.int 40)) aNil))) (eC (.int 20))) (aCons (eBin addO (eC (.int 1)) (eCall 2 m_law_taken (aCons (eVar 1) (aCons (eC (.int 6)) aNil)))) aNil)))))) (aCons (eTup (aCons (eC (.int 0)) (aCons (eC (.int 1)) aNil))) aNil)))
def w12 : Stm := (sFor (iSeq (eVar 12)) (gNm 14) (sSet 13 (eCall 2 m_law_low (aCons (eBin addO (eBin mulO (eBin ixO (eVar 13) (eC (.int 0))) (eBin ixO (eVar 14) (eC (.int 1)))) (eBin mulO (eBin ixO (eVar 14) (eC (.int 0))) (eBin ixO (eVar 13) (eC (.int 1))))) (aCons (eBin mulO (eBin ixO (eVar 13) (eC (.int 1))) (eBin ixO (eVar 14) (eC (.int 1)))) aNil)))))
def w13 : Stm := (sIf (tNotM (tOf (eCall 2 (m_law_alike 30) (aCons (eCall 1 m_total (aCons (eVar 12) aNil)) (aCons (eVar 13) aNil))))) (sRet (eC (.bl false))) sNil)
def w14 : Stm := (sSet 15 (eCall 1 m_median (aCons (eVar 12) aNil)))
def w15 : Stm := (sSet 9 (eB (one lenO) (aCons (eFr (fLc [14] (iSeq (eVar 12)) (gNm 14) (tOf (eBin ltO (eBin mulO (eBin ixO (eVar 14) (eC (.int 0))) (eBin ixO (eVar 15) (eC (.int 1)))) (eBin mulO (eBin ixO (eVar 15) (eC (.int 0))) (eBin ixO (eVar 14) (eC (.int 1)))))) (eC (.int 1)))) aNil)))
def w16 : Stm := (sSet 10 (eB (one lenO) (aCons (eFr (fLc [14] (iSeq (eVar 12)) (gNm 14) (tOf (eBin gtO (eBin mulO (eBin ixO (eVar 14) (eC (.int 0))) (eBin ixO (eVar 15) (eC (.int 1)))) (eBin mulO (eBin ixO (eVar 15) (eC (.int 0))) (eBin ixO (eVar 14) (eC (.int 1)))))) (eC (.int 1)))) aNil)))
def w17 : Stm := (sIf (tOrM (tOf (eBin gtO (eBin mulO (eC (.int 2)) (eVar 9)) (eB (one lenO) (aCons (eVar 12) aNil)))) (tOrM (tOf (eBin gtO (eBin mulO (eC (.int 2)) (eVar 10)) (eB (one lenO) (aCons (eVar 12) aNil)))) (tAndM (tOf (eBin eqO (eBin modO (eB (one lenO) (aCons (eVar 12) aNil)) (eC (.int 2))) (eC (.int 1)))) (tOf (eBin notInO (eVar 15) (eVar 12)))))) (sRet (eC (.bl false))) sNil)
def w18 : Stm := (sFor (iSeq (eLst (aCons (eC .non) (aCons (eTup (aCons (eC (.int 1)) (aCons (eC (.int 0)) aNil))) (aCons (eTup (aCons (eC (.int 2)) (aCons (eC (.int 4)) aNil))) (aCons (eTup (aCons (eC (.int 0)) (aCons (eC (.int 2)) aNil))) (aCons (eTup (aCons (eC (.int 1)) aNil)) (aCons (eTup (aCons (eC (.bl true)) (aCons (eC (.int 2)) aNil))) (aCons (eLst (aCons (eC (.int 1)) (aCons (eC (.int 2)) (aCons (eC (.int 3)) aNil)))) (aCons (eC (.int 5)) (aCons (eTup (aCons (eC (.int 1)) (aCons (eUn negO (eC (.int 1))) aNil))) aNil))))))))))) (gNm 16) (sSeq (sIf (tOf (eCall 1 m_is_fraction (aCons (eVar 16) aNil))) (sRet (eC (.bl false))) sNil)
  (sTryAs isa_BadNumber 17 (sSeq (sExpr (eCall 1 m_want_fraction (aCons (eVar 16) aNil)))
  (sRet (eC (.bl false)))) (sIf (tOf (eBin neO (eB (one reprO) (aCons (eXf 17 "BadNumber" "value") aNil)) (eB (one reprO) (aCons (eVar 16) aNil)))) (sRet (eC (.bl false))) sNil))))
def w19 : Stm := (sRet (eCall 2 (m_law_alike 30) (aCons (eCall 1 m_want_fraction (aCons (eB (one listO) (aCons (eVar 6) aNil)) aNil)) (aCons (eVar 6) aNil))))
theorem b_law_cut : b_law = sSeq w1 (sSeq w2 (sSeq w3 (sSeq w4 (sSeq w5 (sSeq w6 (sSeq w7 (sSeq w8 (sSeq w9 (sSeq w10 (sSeq w11 (sSeq w12 (sSeq w13 (sSeq w14 (sSeq w15 (sSeq w16 (sSeq w17 (sSeq w18 (w19)))))))))))))))))) := rfl
abbrev En (ns : List Int) (a b c d : Int) (O P : Int × Int) (r : List Sl) : List Sl := .va (.scr ns) :: .va (.cel 0) :: .va (.int a) :: .va (.int b) :: .va (.int c) :: .va (.int d) :: .va (FF O) :: .va (FF P) :: r
abbrev un11 : List Sl := [.un, .un, .un, .un, .un, .un, .un, .un, .un, .un, .un]
theorem w1_eq (ns : List Int) (r : List Sl) : w1 ⟨.va (.scr ns) :: .un :: r, []⟩ = .ok .nx ⟨.va (.scr ns) :: .va (.cel 0) :: r, [row ns 0 61 0]⟩ := by unfold w1; simp
structure Sm (a b c d : Int) : Prop where
  a1 : -60 ≤ a
  a2 : a ≤ 60
  b1 : 0 < b
  b2 : b ≤ 60
  c1 : -60 ≤ c
  c2 : c ≤ 60
  d1 : 0 < d
  d2 : d ≤ 60
theorem w2_eq (ns : List Int) (r : List Sl) : ∃ a b c d p s q, Sm a b c d ∧ 0 ≤ p ∧ w2 ⟨.va (.scr ns) :: .va (.cel 0) :: .un :: .un :: .un :: .un :: r, [row ns 0 61 0]⟩ = .ok .nx ⟨.va (.scr ns) :: .va (.cel 0) :: .va (.int a) :: .va (.int b) :: .va (.int c) :: .va (.int d) :: r, [row ns p s q]⟩ := by
  obtain ⟨k1, p1, s1, r1, t1, x1, x2, x3⟩ := taken_eq ns 0 61 0 121 (by omega) (by omega) (by omega)
  obtain ⟨k2, p2, s2, r2, t2, y1, y2, y3⟩ := taken_eq ns p1 s1 r1 60 x3 (by omega) (by omega)
  obtain ⟨k3, p3, s3, r3, t3, z1, z2, z3⟩ := taken_eq ns p2 s2 r2 121 y3 (by omega) (by omega)
  obtain ⟨k4, p4, s4, r4, t4, v1, v2, v3⟩ := taken_eq ns p3 s3 r3 60 z3 (by omega) (by omega)
  refine ⟨k1 - 60, 1 + k2, k3 - 60, 1 + k4, p4, s4, r4, ⟨by omega, by omega, by omega, by omega, by omega, by omega, by omega, by omega⟩, v3, ?_⟩
  unfold w2
  simp [callM, t1, t2, t3, t4]
theorem w3_eq {ns : List Int} {a b c d : Int} (h : Sm a b c d) (r : List Sl) (st : List Cl) : w3 ⟨.va (.scr ns) :: .va (.cel 0) :: .va (.int a) :: .va (.int b) :: .va (.int c) :: .va (.int d) :: .un :: .un :: r, st⟩ = .ok .nx ⟨En ns a b c d (redP a b) (redP c d) r, st⟩ := by
  unfold w3
  simp [callM, reduced_eq a b h.b1 (by have := h.b2; omega), reduced_eq c d h.d1 (by have := h.d2; omega), red_P]
/-- what the two fractions are -/
structure Tw (a b c d : Int) (O P : Int × Int) : Prop extends Sm a b c d where
  eO : O = redP a b
  eP : P = redP c d
  O1 : 0 < O.2
  O2 : O.2 ≤ b
  P1 : 0 < P.2
  P2 : P.2 ≤ d
  fO : Fra O.1 O.2
  fP : Fra P.1 P.2
theorem Sm.tw {a b c d : Int} (h : Sm a b c d) : Tw a b c d (redP a b) (redP c d) :=
  { h with eO := rfl, eP := rfl, O1 := (redP_pos h.b1).1, O2 := (redP_pos h.b1).2, P1 := (redP_pos h.d1).1, P2 := (redP_pos h.d1).2, fO := (redP_spec h.b1).2.2, fP := (redP_spec h.d1).2.2 }
section
variable {ns : List Int} {a b c d : Int} {O P : Int × Int} {st : List Cl}
theorem Tw.mb (h : Tw a b c d O P) (i : Int) : mulO (.int i) (.int b) = some (.int (i * b)) := mul_ii (.inr (by have := h.b1; have := h.b2; omega))
theorem Tw.md (h : Tw a b c d O P) (i : Int) : mulO (.int i) (.int d) = some (.int (i * d)) := mul_ii (.inr (by have := h.d1; have := h.d2; omega))
theorem Tw.mc (h : Tw a b c d O P) (i : Int) : mulO (.int i) (.int c) = some (.int (i * c)) := mul_ii (.inr (by have := h.c1; have := h.c2; omega))
theorem m2r (i : Int) : mulO (.int i) (.int 2) = some (.int (i * 2)) := mul_ii (.inr (by omega))
theorem m2l (i : Int) : mulO (.int 2) (.int i) = some (.int (2 * i)) := mul_ii (.inl (by omega))
theorem Tw.w4 (h : Tw a b c d O P) (r : List Sl) : w4 ⟨En ns a b c d O P r, st⟩ = .ok .nx ⟨En ns a b c d O P r, st⟩ := by
  obtain ⟨⟨a1, a2, b1, b2, c1, c2, d1, d2⟩, eO, eP, O1, O2, P1, P2, fO, fP⟩ := id h
  have l1 := low_eq a b b1 (by omega) st
  have l2 := low_eq c d d1 (by omega) st
  rw [red_P, ← eO] at l1
  rw [red_P, ← eP] at l2
  have f1 := is_fraction_eq O1 (by omega) st (red_self fO)
  have e2 : red (a * 2) (b * 2) = F2 O.1 O.2 := by rw [Int.mul_comm a 2, Int.mul_comm b 2, red_scale (by omega) b1, red_P, ← eO]
  have f2 := is_fraction_eq (a := a * 2) (b := b * 2) (by omega) (by omega) st e2
  have n2 : ¬ (O.1 = a * 2 ∧ O.2 = b * 2) := fun x => by have := x.2; omega
  have al := alike_FFs [O, P] (by show 2 ≤ 1000; omega) st
  have al : m_law_alike 30 [.tup [FF O, FF P], .tup [FF O, FF P]] st = .ok (.bl true) ⟨[], st⟩ := al
  unfold Prog.w4
  simp only [sIf_eq, tOrM_eq, tNotM_eq, tOf_eq, eCall_eq, aCons_eq, aNil_eq, eTup_eq, eVar_eq, List.getElem?_cons_zero, List.getElem?_cons_succ, bind_ok, List.length_cons, List.length_nil, callM_ok l1, callM_ok l2, callM_ok al, callM_ok f1]
  simp [h.mb, m2r, callM, l1, l2, al, f1, f2, n2]
theorem Tw.w5 (h : Tw a b c d O P) (r : List Sl) : w5 ⟨En ns a b c d O P r, st⟩ = .ok .nx ⟨En ns a b c d O P r, st⟩ := by
  obtain ⟨⟨a1, a2, b1, b2, c1, c2, d1, d2⟩, eO, eP, O1, O2, P1, P2, fO, fP⟩ := id h
  obtain ⟨k, hk, x1, x2, x3, x4, x5, x6, x7⟩ := cross (a := a) (b := b) (c := c) (d := d) b1 d1
  rw [← eO, ← eP] at x1 x2 x3 x4 x5 x6 x7
  have hz : O.2 * P.2 ≤ 60 * 60 := Int.mul_le_mul (by omega) (by omega) (by omega) (by omega)
  have hz1 : 0 < O.2 * P.2 := Int.mul_pos O1 P1
  have hz2 : b * d ≤ 60 * 60 := Int.mul_le_mul (by omega) (by omega) (by omega) (by omega)
  have hz3 : 0 < b * d := Int.mul_pos b1 d1
  have hc : -60 ≤ P.1 ∧ P.1 ≤ 60 := by
    have e := (redP_spec (a := c) d1).1
    rw [← eP] at e
    exact small_of (gg_pos (a := c) d1) (by omega) (by omega)
  have p1 := plus_eq (a := O.1) (c := P.1) O1 P1 (by omega) (by omega) (by omega) st
  have p2 := minus_eq (a := O.1) (c := P.1) O1 P1 (by omega) (by omega) (by omega) st
  have p3 := times_eq (a := O.1) (c := P.1) O1 P1 (by omega) (by omega) (by omega) st
  have l1 := low_eq (a * d + c * b) (b * d) hz3 (by omega) st
  have l2 := low_eq (a * d - c * b) (b * d) hz3 (by omega) st
  have l3 := low_eq (a * c) (b * d) hz3 (by omega) st
  rw [x1, x3, red_scale hk hz1, ← x1, ← x3] at l1
  rw [x2, x3, red_scale hk hz1, ← x2, ← x3] at l2
  rw [x4, x3, red_scale hk hz1, ← x4, ← x3] at l3
  have al := alike_FFs [redP (O.1 * P.2 + P.1 * O.2) (O.2 * P.2), redP (O.1 * P.2 - P.1 * O.2) (O.2 * P.2), redP (O.1 * P.1) (O.2 * P.2)] (by show 3 ≤ 1000; omega) st
  have al : m_law_alike 30 [.tup [red (O.1 * P.2 + P.1 * O.2) (O.2 * P.2), red (O.1 * P.2 - P.1 * O.2) (O.2 * P.2), red (O.1 * P.1) (O.2 * P.2)], .tup [red (O.1 * P.2 + P.1 * O.2) (O.2 * P.2), red (O.1 * P.2 - P.1 * O.2) (O.2 * P.2), red (O.1 * P.1) (O.2 * P.2)]] st = .ok (.bl true) ⟨[], st⟩ := al
  unfold Prog.w5
  simp [h.mb, h.md, h.mc, callM, p1, p2, p3, l1, l2, l3, al]
theorem Tw.w6 (h : Tw a b c d O P) (r : List Sl) : w6 ⟨En ns a b c d O P r, st⟩ = .ok .nx ⟨En ns a b c d O P r, st⟩ := by
  obtain ⟨⟨a1, a2, b1, b2, c1, c2, d1, d2⟩, eO, eP, O1, O2, P1, P2, fO, fP⟩ := id h
  obtain ⟨k, hk, x1, x2, x3, x4, x5, x6, x7⟩ := cross (a := a) (b := b) (c := c) (d := d) b1 d1
  rw [← eO, ← eP] at x1 x2 x3 x4 x5 x6 x7
  have hl := is_less_eq O.1 O.2 P.1 P.2 (by omega) (by omega) st
  have el : decide (a * d < c * b) = decide (O.1 * P.2 < P.1 * O.2) := by
    rw [x5, x7]
    exact decide_eq_decide.mpr ⟨fun q => Int.lt_of_mul_lt_mul_left q (by omega), fun q => Int.mul_lt_mul_of_pos_left q hk⟩
  have tr := truth_eq (decide (O.1 * P.2 < P.1 * O.2)) st
  have lt_ii : ltO (.int (a * d)) (.int (c * b)) = some (.bl (decide (a * d < c * b))) := rfl
  unfold Prog.w6
  by_cases hc : 0 < c
  · have e := (redP_spec (a := c) d1).1
    rw [← eP] at e
    have hg := gg_pos (a := c) d1
    have hs := small_of hg (x := P.1) (by omega) (by omega)
    have hp : 0 < P.1 := by
      rcases Int.lt_or_le 0 P.1 with q | q
      · exact q
      · have := Int.mul_le_mul_of_nonneg_left q (show 0 ≤ gg c d by omega)
        omega
    have hz : O.2 * P.1 ≤ 60 * 60 := Int.mul_le_mul (by omega) (by omega) (by omega) (by omega)
    have hz1 : 0 < O.2 * P.1 := Int.mul_pos O1 hp
    have hz2 : b * c ≤ 60 * 60 := Int.mul_le_mul (by omega) (by omega) (by omega) (by omega)
    have hz3 : 0 < b * c := Int.mul_pos b1 hc
    have p1 := over_eq (a := O.1) (d := P.2) O1 hp (by omega) (by omega) (by omega) st
    have l1 := low_eq (a * d) (b * c) hz3 (by omega) st
    rw [x5, x6, red_scale hk hz1, ← x5, ← x6] at l1
    have al := alike_FF 28 (redP (O.1 * P.2) (O.2 * P.1)) st
    have al : m_law_alike 30 [red (O.1 * P.2) (O.2 * P.1), red (O.1 * P.2) (O.2 * P.1)] st = .ok (.bl true) ⟨[], st⟩ := al
    simp [h.mb, h.md, h.mc, callM, p1, l1, al, hl, lt_ii, el, tr, hc]
  · simp [h.mb, h.md, h.mc, callM, hl, lt_ii, el, tr, hc]
end
end Prog
namespace Prog
open PySem PySem.Spec PyProof.Rows L2 Mir
section
variable {ns : List Int} {a b c d : Int} {O P : Int × Int} {st : List Cl}
theorem Tw.w7 (h : Tw a b c d O P) (x : Sl) (r : List Sl) : w7 ⟨En ns a b c d O P (x :: r), st⟩ = .ok .nx ⟨En ns a b c d O P (.va (.lst (rngD (-61) 123)) :: r), st⟩ := by
  unfold Prog.w7
  have e : fLR2 (eUn negO (eC (.int 61))) (eC (.int 62)) ⟨En ns a b c d O P (x :: r), st⟩ = .ok (.ol (rngD (-61) 123)) ⟨En ns a b c d O P (x :: r), st⟩ := by
    rfl
  rw [sSet_eq, eFr_eq, e]
  simp
theorem Tw.en (h : Tw a b c d O P) : O.1 / O.2 = a / b ∧ -(-O.1 / O.2) = -(-a / b) ∧ (2 * O.1 + O.2) / (2 * O.2) = (2 * a + b) / (2 * b) := by
  obtain ⟨e1, e2, _⟩ := redP_spec (a := a) h.b1
  rw [← h.eO] at e1 e2
  have hg := gg_pos (a := a) h.b1
  generalize gg a b = g at *
  have q1 : 2 * a + b = g * (2 * O.1 + O.2) := by rw [Int.mul_add, Int.mul_left_comm]; omega
  have q2 : 2 * b = g * (2 * O.2) := by rw [Int.mul_left_comm]; omega
  have q3 : -a = g * -O.1 := by rw [Int.mul_neg]; omega
  refine ⟨?_, ?_, ?_⟩
  · rw [e1, e2, Int.mul_ediv_mul_of_pos _ _ hg]
  · rw [q3, e2, Int.mul_ediv_mul_of_pos _ _ hg]
  · rw [q1, q2, Int.mul_ediv_mul_of_pos _ _ hg]
theorem ediv_bd {x y : Int} (hy : 0 < y) (h1 : -60 ≤ x) (h2 : x ≤ 60) : -60 ≤ x / y ∧ x / y ≤ 60 := by
  constructor
  · refine Int.le_ediv_of_mul_le hy ?_
    omega
  · refine Int.le_trans (Int.ediv_le_ediv hy h2) ?_
    refine Int.le_trans (Int.ediv_le_self y (by omega)) (by omega)
theorem lc_ints {S S1 : MS} {l : List Sl} {t : Tst} (p : Int → Bool) (lo : Int) (n : Nat) (hi : iSeq (eVar 8) S = .ok (rngD lo n) ⟨l, st⟩) (hk : 18 < l.length) (hd : ((l[18]?).getD Sl.un).dead = true)
    (ht : ∀ k, t ⟨l.set 18 (.va (.int k)), st⟩ = .ok (p k) ⟨l.set 18 (.va (.int k)), st⟩) (hn : n ≤ 1000) : fLc [18] (iSeq (eVar 8)) (gNm 18) t (eVar 18) S = .ok (.ol (((intsR lo n).filter p).map D.int)) ⟨l, st⟩ := by
  rw [fLc_pure (st1 := st) (pI p) id hi hk hd (fun d hd => by
    obtain ⟨i, hi⟩ := List.getElem?_of_mem hd
    obtain ⟨h1, rfl⟩ := rngD_get hi
    exact ht _) (fun d hd hp => by simp [List.getElem?_set_self, hk]) (by rw [rngD_length, sizeLine_eq]; omega), filter_intsR]
theorem Tw.w8 (h : Tw a b c d O P) (x9 x10 : Sl) (r : List Sl) (hr : r.length = 8) (h18 : ((r[7]?).getD Sl.un).dead = true) : w8 ⟨En ns a b c d O P (.va (.lst (rngD (-61) 123)) :: x9 :: x10 :: r), st⟩ = .ok .nx ⟨En ns a b c d O P (.va (.lst (rngD (-61) 123)) :: .va (.int (O.1 / O.2)) :: .va (.int (-(-O.1 / O.2))) :: r), st⟩ := by
  obtain ⟨⟨a1, a2, b1, b2, c1, c2, d1, d2⟩, eO, eP, O1, O2, P1, P2, fO, fP⟩ := id h
  obtain ⟨y1, y2, y3, y4, y5, y6, y7, y8, rfl⟩ : ∃ y1 y2 y3 y4 y5 y6 y7 y8, r = [y1, y2, y3, y4, y5, y6, y7, y8] := by
    match r, hr with
    | [y1, y2, y3, y4, y5, y6, y7, y8], _ => exact ⟨_, _, _, _, _, _, _, _, rfl⟩
  have h18 : y8.dead = true := h18
  rw [h.en.1, h.en.2.1]
  have le_ii : ∀ i j : Int, leO (.int i) (.int j) = some (.bl (decide (i ≤ j))) := fun _ _ => rfl
  have ge_ii : ∀ i j : Int, geO (.int i) (.int j) = some (.bl (decide (i ≥ j))) := fun _ _ => rfl
  have bd := ediv_bd b1 a1 a2
  have bd2 := ediv_bd b1 (x := -a) (by omega) (by omega)
  have f1 := lc_ints (st := st) (S := ⟨En ns a b c d O P [.va (.lst (rngD (-61) 123)), x9, x10, y1, y2, y3, y4, y5, y6, y7, y8], st⟩) (S1 := ⟨[], []⟩) (l := En ns a b c d O P [.va (.lst (rngD (-61) 123)), x9, x10, y1, y2, y3, y4, y5, y6, y7, y8])
    (t := tOf (eBin leO (eBin mulO (eVar 18) (eVar 3)) (eVar 2))) (fun k => decide (k * b ≤ a)) (-61) 123 (by simp) (by simp) (by simpa using h18) (fun k => by simp [h.mb, le_ii]) (by omega)
  have f2 := lc_ints (st := st) (S := ⟨En ns a b c d O P [.va (.lst (rngD (-61) 123)), x9, x10, y1, y2, y3, y4, y5, y6, y7, y8], st⟩) (S1 := ⟨[], []⟩) (l := En ns a b c d O P [.va (.lst (rngD (-61) 123)), x9, x10, y1, y2, y3, y4, y5, y6, y7, y8])
    (t := tOf (eBin geO (eBin mulO (eVar 18) (eVar 3)) (eVar 2))) (fun k => decide (k * b ≥ a)) (-61) 123 (by simp) (by simp) (by simpa using h18) (fun k => by simp [h.mb, ge_ii]) (by omega)
  have g1 := maxL_is (L := (intsR (-61) 123).filter (fun k => decide (k * b ≤ a))) (m := a / b) (List.mem_filter.mpr ⟨mem_intsR.mpr (by omega), by simpa using Int.ediv_mul_le a (show b ≠ 0 by omega)⟩)
    (fun x hx => Int.le_ediv_of_mul_le b1 (by simpa using (List.mem_filter.mp hx).2))
  have g2 := minL_is (L := (intsR (-61) 123).filter (fun k => decide (k * b ≥ a))) (m := -(-a / b)) (List.mem_filter.mpr ⟨mem_intsR.mpr (by omega), by
      have := Int.ediv_mul_le (-a) (show b ≠ 0 by omega)
      simp only [ge_iff_le, decide_eq_true_eq, Int.neg_mul]
      omega⟩)
    (fun x hx => by
      have h1 : x * b ≥ a := by simpa using (List.mem_filter.mp hx).2
      have h2 : -x ≤ -a / b := Int.le_ediv_of_mul_le b1 (by rw [Int.neg_mul]; omega)
      omega)
  unfold Prog.w8
  rw [sPar2_eq, aCons_eq, eB_eq, aCons_eq, eFr_eq, f1]
  simp only [bind_ok, aNil_eq, oneTwo_1, g1, liftO_some, aCons_eq, eB_eq, eFr_eq, f2, g2]
  simp
theorem Tw.w9 (h : Tw a b c d O P) (x9 x10 x11 : Sl) (r : List Sl) (hr : r.length = 7) (h18 : ((r[6]?).getD Sl.un).dead = true) : w9 ⟨En ns a b c d O P (.va (.lst (rngD (-61) 123)) :: x9 :: x10 :: x11 :: r), st⟩ = .ok .nx ⟨En ns a b c d O P (.va (.lst (rngD (-61) 123)) :: x9 :: x10 :: .va (.int ((2 * O.1 + O.2) / (2 * O.2))) :: r), st⟩ := by
  obtain ⟨⟨a1, a2, b1, b2, c1, c2, d1, d2⟩, eO, eP, O1, O2, P1, P2, fO, fP⟩ := id h
  obtain ⟨y1, y2, y3, y4, y5, y6, y7, rfl⟩ : ∃ y1 y2 y3 y4 y5 y6 y7, r = [y1, y2, y3, y4, y5, y6, y7] := by
    match r, hr with
    | [y1, y2, y3, y4, y5, y6, y7], _ => exact ⟨_, _, _, _, _, _, _, rfl⟩
  have h18 : y7.dead = true := h18
  rw [h.en.2.2]
  have le_ii : ∀ i j : Int, leO (.int i) (.int j) = some (.bl (decide (i ≤ j))) := fun _ _ => rfl
  have ek : ∀ k : Int, (2 * k - 1) * b = k * (2 * b) - b := fun k => by rw [Int.sub_mul, Int.one_mul, Int.mul_comm 2 k, Int.mul_assoc]
  have hb : -60 ≤ (2 * a + b) / (2 * b) ∧ (2 * a + b) / (2 * b) ≤ 61 := by
    constructor
    · refine Int.le_ediv_of_mul_le (by omega) ?_
      omega
    · have : (2 * a + b) / (2 * b) < 62 := Int.ediv_lt_of_lt_mul (by omega) (by omega)
      omega
  have f1 := lc_ints (st := st) (S := ⟨En ns a b c d O P [.va (.lst (rngD (-61) 123)), x9, x10, x11, y1, y2, y3, y4, y5, y6, y7], st⟩) (S1 := ⟨[], []⟩) (l := En ns a b c d O P [.va (.lst (rngD (-61) 123)), x9, x10, x11, y1, y2, y3, y4, y5, y6, y7])
    (t := tOf (eBin leO (eBin mulO (eBin subO (eBin mulO (eC (.int 2)) (eVar 18)) (eC (.int 1))) (eVar 3)) (eBin mulO (eC (.int 2)) (eVar 2)))) (fun k => decide ((2 * k - 1) * b ≤ 2 * a)) (-61) 123 (by simp) (by simp) (by simpa using h18) (fun k => by simp [h.mb, m2l, le_ii]) (by omega)
  have g1 := maxL_is (L := (intsR (-61) 123).filter (fun k => decide ((2 * k - 1) * b ≤ 2 * a))) (m := (2 * a + b) / (2 * b)) (List.mem_filter.mpr ⟨mem_intsR.mpr (by omega), by
      have := Int.ediv_mul_le (2 * a + b) (show 2 * b ≠ 0 by omega)
      have e := ek ((2 * a + b) / (2 * b))
      simp only [decide_eq_true_eq]
      omega⟩)
    (fun x hx => Int.le_ediv_of_mul_le (by omega) (by
      have h1 : (2 * x - 1) * b ≤ 2 * a := by simpa using (List.mem_filter.mp hx).2
      have e := ek x
      omega))
  unfold Prog.w9
  rw [sSet_eq, eB_eq, aCons_eq, eFr_eq, f1]
  simp only [bind_ok, aNil_eq, oneTwo_1, g1, liftO_some]
  simp
theorem Tw.w10 (h : Tw a b c d O P) (x8 : Sl) (r : List Sl) : w10 ⟨En ns a b c d O P (x8 :: .va (.int (O.1 / O.2)) :: .va (.int (-(-O.1 / O.2))) :: .va (.int ((2 * O.1 + O.2) / (2 * O.2))) :: r), st⟩ = .ok .nx ⟨En ns a b c d O P (x8 :: .va (.int (O.1 / O.2)) :: .va (.int (-(-O.1 / O.2))) :: .va (.int ((2 * O.1 + O.2) / (2 * O.2))) :: r), st⟩ := by
  obtain ⟨⟨a1, a2, b1, b2, c1, c2, d1, d2⟩, eO, eP, O1, O2, P1, P2, fO, fP⟩ := id h
  have p1 := floor_eq O.1 O.2 (by omega) st
  have p2 := ceil_eq O.1 O.2 (by omega) st
  have p3 := near_eq O.1 O.2 (by omega) st
  have al := alike_ints [O.1 / O.2, -(-O.1 / O.2), (2 * O.1 + O.2) / (2 * O.2)] (by show 3 ≤ 1000; omega) st
  have al : m_law_alike 30 [.tup [.int (O.1 / O.2), .int (-(-O.1 / O.2)), .int ((2 * O.1 + O.2) / (2 * O.2))], .tup [.int (O.1 / O.2), .int (-(-O.1 / O.2)), .int ((2 * O.1 + O.2) / (2 * O.2))]] st = .ok (.bl true) ⟨[], st⟩ := al
  unfold Prog.w10
  simp [callM, p1, p2, p3, al]
end
end Prog
namespace Prog
open PySem PySem.Spec PyProof.Rows L2 Mir
section
variable {ns : List Int} {a b c d : Int} {O P : Int × Int} {st : List Cl}
theorem Tw.okO (h : Tw a b c d O P) : okQ O := ⟨h.O1, by have := h.O2; have := h.b2; omega⟩
theorem Tw.okP (h : Tw a b c d O P) : okQ P := ⟨h.P1, by have := h.P2; have := h.d2; omega⟩
theorem Tw.w11 (h : Tw a b c d O P) (x8 x9 x10 x11 x12 x13 : Sl) {p s q : Int} (hp : 0 ≤ p) : ∃ L p' s' q', (∀ x ∈ L, okR x) ∧ L.length ≤ 4 ∧
    w11 ⟨En ns a b c d O P [x8, x9, x10, x11, x12, x13, .un, .un, .un, .un, .un], [row ns p s q]⟩ = .ok .nx ⟨En ns a b c d O P [x8, x9, x10, x11, .va (.lst ((O :: P :: L).map FF)), .va (FF (0, 1)), .un, .un, .un, .un, .un], [row ns p' s' q']⟩ := by
  obtain ⟨k, p1, s1, r1, t1, z1, z2, z3⟩ := taken_eq ns p s q 5 hp (by omega) (by omega)
  have er := range1 (as := aCons (eCall 2 m_law_taken (aCons (eVar 1) (aCons (eC (.int 5)) aNil))) aNil) (S := ⟨En ns a b c d O P [x8, x9, x10, x11, x12, x13, .un, .un, .un, .un, .un], [row ns p s q]⟩)
    (S1 := ⟨En ns a b c d O P [x8, x9, x10, x11, x12, x13, .un, .un, .un, .un, .un], [row ns p1 s1 r1]⟩) (j := k) (by simp [callM, t1]) (by omega) (by omega)
  obtain ⟨L, p', s', q', y1, y2, y3, y4⟩ := rows_eq ns (l := En ns a b c d O P [x8, x9, x10, x11, x12, x13, .un, .un, .un, .un, .un]) rfl (by simp) rfl (rngD 0 k.toNat) [] p1 s1 r1 z3 (by rw [rngD_length]; show 0 + _ ≤ _; omega)
  rw [rngD_length] at y2
  refine ⟨L, p', s', q', y3, by omega, ?_⟩
  have ef : fLc [18] (iRange1 (aCons (eCall 2 m_law_taken (aCons (eVar 1) (aCons (eC (.int 5)) aNil))) aNil)) (gNm 18) tYesM rTest ⟨En ns a b c d O P [x8, x9, x10, x11, x12, x13, .un, .un, .un, .un, .un], [row ns p s q]⟩
      = .ok (.ol (L.map FF)) ⟨En ns a b c d O P [x8, x9, x10, x11, x12, x13, .un, .un, .un, .un, .un], [row ns p' s' q']⟩ := by
    unfold fLc
    rw [er, bind_ok]
    have hd : ([18].all fun i => (((⟨En ns a b c d O P [x8, x9, x10, x11, x12, x13, .un, .un, .un, .un, .un], [row ns p1 s1 r1]⟩ : MS).env[i]?).getD Sl.un).dead) = true := rfl
    rw [if_pos hd]
    have e1 : (⟨En ns a b c d O P [x8, x9, x10, x11, x12, x13, .un, .un, .un, .un, .un], [row ns p1 s1 r1]⟩ : MS).wipe [18] = ⟨En ns a b c d O P [x8, x9, x10, x11, x12, x13, .un, .un, .un, .un, .un], [row ns p1 s1 r1]⟩ := rfl
    rw [e1, y4]
    rfl
  unfold Prog.w11
  rw [sPar2_eq, aCons_eq, eBin_eq]
  have ea : addO (.lst [FF O, FF P]) (.lst (L.map FF)) = some (.lst ((O :: P :: L).map FF)) := by
    show (if 2 + (L.map FF).length ≤ sizeLine then _ else _) = _
    rw [if_pos (by rw [List.length_map, sizeLine_eq]; omega)]; rfl
  have el : eLst (aCons (eVar 6) (aCons (eVar 7) aNil)) ⟨En ns a b c d O P [x8, x9, x10, x11, x12, x13, .un, .un, .un, .un, .un], [row ns p s q]⟩ = .ok (.lst [FF O, FF P]) ⟨En ns a b c d O P [x8, x9, x10, x11, x12, x13, .un, .un, .un, .un, .un], [row ns p s q]⟩ := by simp
  unfold rTest at ef
  rw [el, bind_ok, eFr_eq, ef]
  simp [ea]
theorem w12_eq (x8 x9 x10 x11 : Sl) (rows : List (Int × Int)) (hr : ∀ p ∈ rows, 0 < p.2) (hz : prodD rows ≤ 4665600) (hne : rows ≠ []) : ∃ d14,
    w12 ⟨En ns a b c d O P [x8, x9, x10, x11, .va (.lst (rows.map FF)), .va (FF (0, 1)), .un, .un, .un, .un, .un], st⟩ = .ok .nx ⟨En ns a b c d O P [x8, x9, x10, x11, .va (.lst (rows.map FF)), .va (FF (rows.foldl addP (0, 1))), .va d14, .un, .un, .un, .un], st⟩ := by
  unfold w12
  rw [sFor_eq]
  have es : iSeq (eVar 12) ⟨En ns a b c d O P [x8, x9, x10, x11, .va (.lst (rows.map FF)), .va (FF (0, 1)), .un, .un, .un, .un, .un], st⟩ = .ok (rows.map FF) ⟨En ns a b c d O P [x8, x9, x10, x11, .va (.lst (rows.map FF)), .va (FF (0, 1)), .un, .un, .un, .un, .un], st⟩ := by simp
  rw [es, bind_ok]
  obtain ⟨S2, e, l', w, o, e1, hd, rfl, e2, _⟩ := for_nx (g := gNm 14) (b := sSet 13 (eCall 2 m_law_low (aCons (eBin addO (eBin mulO (eBin ixO (eVar 13) (eC (.int 0))) (eBin ixO (eVar 14) (eC (.int 1)))) (eBin mulO (eBin ixO (eVar 14) (eC (.int 0))) (eBin ixO (eVar 13) (eC (.int 1))))) (aCons (eBin mulO (eBin ixO (eVar 13) (eC (.int 1))) (eBin ixO (eVar 14) (eC (.int 1)))) aNil))))
    (fun r S => ∃ l' w o, r = l'.map FF ∧ (r = rows.map FF ∨ ∃ d, o = .va d) ∧ S = ⟨En ns a b c d O P [x8, x9, x10, x11, .va (.lst (rows.map FF)), .va (FF w), o, .un, .un, .un, .un], st⟩ ∧ l'.foldl addP w = rows.foldl addP (0, 1) ∧ (∀ p ∈ l', 0 < p.2) ∧ 0 < w.2 ∧ w.2 * prodD l' ≤ 4665600)
    (rows.map FF) ⟨En ns a b c d O P [x8, x9, x10, x11, .va (.lst (rows.map FF)), .va (FF (0, 1)), .un, .un, .un, .un, .un], st⟩ ⟨rows, (0, 1), .un, rfl, .inl rfl, rfl, rfl, hr, by decide, by simpa using hz⟩ (by
      rintro d1 r S ⟨l', w, o, er, _, rfl, ef, hp, hw, hb⟩
      cases l' with
      | nil => cases er
      | cons p l' =>
        cases er
        obtain ⟨h1, h2, h3, h4, h5, h6, h7⟩ := turn_ok hw hp hb
        have i0 : ∀ x y : Int, ixO (F2 x y) (.int 0) = some (.int x) := fun _ _ => rfl
        have i1 : ∀ x y : Int, ixO (F2 x y) (.int 1) = some (.int y) := fun _ _ => rfl
        have m1 : mulO (.int w.1) (.int p.2) = some (.int (w.1 * p.2)) := mul_ii (.inr (by omega))
        have m2 : mulO (.int p.1) (.int w.2) = some (.int (p.1 * w.2)) := mul_ii (.inr (by omega))
        have m3 : mulO (.int w.2) (.int p.2) = some (.int (w.2 * p.2)) := mul_ii (.inr (by omega))
        refine ⟨_, ⟨En ns a b c d O P [x8, x9, x10, x11, .va (.lst (rows.map FF)), .va (FF (addP w p)), .va (FF p), .un, .un, .un, .un], st⟩, rfl, ?_, l', addP w p, _, rfl, .inr ⟨_, rfl⟩, rfl, ef, fun q hq => hp q (List.mem_cons_of_mem _ hq), h6, h7⟩
        have lo := low_eq (w.1 * p.2 + p.1 * w.2) (w.2 * p.2) h5 h4 st
        simp [callM, i0, i1, m1, m2, m3, lo, red_P, addP])
  have e3 : l' = [] := by simpa using e1.symm
  subst e3
  have e2 : w = rows.foldl addP (0, 1) := e2
  subst e2
  rcases hd with hd | ⟨d14, rfl⟩
  · exact absurd hd.symm (by simpa using hne)
  · exact ⟨d14, e⟩
theorem w13_eq (x8 x9 x10 x11 x14 : Sl) (r : List Sl) (rows : List (Int × Int)) (hr : ∀ p ∈ rows, 0 < p.2) (hz : prodD rows ≤ 4665600) :
    w13 ⟨En ns a b c d O P (x8 :: x9 :: x10 :: x11 :: .va (.lst (rows.map FF)) :: .va (FF (rows.foldl addP (0, 1))) :: r), st⟩ = .ok .nx ⟨En ns a b c d O P (x8 :: x9 :: x10 :: x11 :: .va (.lst (rows.map FF)) :: .va (FF (rows.foldl addP (0, 1))) :: r), st⟩ := by
  have t := total_eq hr hz st
  have al := alike_FF 28 (rows.foldl addP (0, 1)) st
  unfold w13
  simp [callM, t, al]
/-- a test over the fractions of a list -/
def qD (p : Int × Int → Bool) : D → Bool
  | .tup [.int x, .int y] => p (x, y)
  | _ => false
theorem filter_qD (p : Int × Int → Bool) (l : List (Int × Int)) : (l.map FF).filter (qD p) = (l.filter p).map FF := by
  rw [List.filter_map]; rfl
theorem w14_eq (x8 x9 x10 x11 x13 x14 x15 : Sl) (r : List Sl) (rows : List (Int × Int)) {M : Int × Int} (e : m_median [.lst (rows.map FF)] st = .ok (FF M) ⟨[], st⟩) :
    w14 ⟨En ns a b c d O P (x8 :: x9 :: x10 :: x11 :: .va (.lst (rows.map FF)) :: x13 :: x14 :: x15 :: r), st⟩ = .ok .nx ⟨En ns a b c d O P (x8 :: x9 :: x10 :: x11 :: .va (.lst (rows.map FF)) :: x13 :: x14 :: .va (FF M) :: r), st⟩ := by
  unfold w14
  simp [callM, e]
theorem lc_qD {l : List Sl} {rows : List (Int × Int)} {t : Tst} (p : Int × Int → Bool) (hi : iSeq (eVar 12) ⟨l, st⟩ = .ok (rows.map FF) ⟨l, st⟩) (hk : 14 < l.length) (hd : ((l[14]?).getD Sl.un).dead = true)
    (ht : ∀ x ∈ rows, t ⟨l.set 14 (.va (FF x)), st⟩ = .ok (p x) ⟨l.set 14 (.va (FF x)), st⟩) (hn : rows.length ≤ 1000) : fLc [14] (iSeq (eVar 12)) (gNm 14) t (eC (.int 1)) ⟨l, st⟩ = .ok (.ol ((rows.filter p).map fun _ => .int 1)) ⟨l, st⟩ := by
  rw [fLc_pure (st1 := st) (e := eC (.int 1)) (qD p) (fun _ => .int 1) hi hk hd (fun d hd => by
    obtain ⟨x, hx, rfl⟩ := List.mem_map.mp hd
    exact ht x hx) (fun d hd hp => rfl) (by rw [List.length_map, sizeLine_eq]; omega), filter_qD, List.map_map]
  rfl
theorem w15_eq (x8 x9 x10 x11 x13 x14 x16 x17 x18 : Sl) (h14 : x14.dead = true) (rows : List (Int × Int)) {M : Int × Int} (hM : 0 < M.2 ∧ M.2 ≤ 100000) (hr : ∀ y ∈ rows, okQ y) (hn : rows.length ≤ 1000) :
    w15 ⟨En ns a b c d O P [x8, x9, x10, x11, .va (.lst (rows.map FF)), x13, x14, .va (FF M), x16, x17, x18], st⟩ = .ok .nx ⟨En ns a b c d O P [x8, .va (.int ((rows.filter fun y => decide (¬ leP M y)).length : Nat)), x10, x11, .va (.lst (rows.map FF)), x13, x14, .va (FF M), x16, x17, x18], st⟩ := by
  have i0 : ∀ x y : Int, ixO (F2 x y) (.int 0) = some (.int x) := fun _ _ => rfl
  have i1 : ∀ x y : Int, ixO (F2 x y) (.int 1) = some (.int y) := fun _ _ => rfl
  have lt_ii : ∀ i j : Int, ltO (.int i) (.int j) = some (.bl (decide (i < j))) := fun _ _ => rfl
  have e := lc_qD (st := st) (l := En ns a b c d O P [x8, x9, x10, x11, .va (.lst (rows.map FF)), x13, x14, .va (FF M), x16, x17, x18]) (rows := rows) (t := tOf (eBin ltO (eBin mulO (eBin ixO (eVar 14) (eC (.int 0))) (eBin ixO (eVar 15) (eC (.int 1)))) (eBin mulO (eBin ixO (eVar 15) (eC (.int 0))) (eBin ixO (eVar 14) (eC (.int 1))))))
    (fun y => decide (¬ leP M y)) (by simp) (by simp) (by simpa using h14) (fun x hx => by
      have m1 : mulO (.int x.1) (.int M.2) = some (.int (x.1 * M.2)) := mul_ii (.inr (by omega))
      have m2 : mulO (.int M.1) (.int x.2) = some (.int (M.1 * x.2)) := mul_ii (.inr (by have := (hr x hx).1; have := (hr x hx).2; omega))
      have ed : decide (¬ leP M x) = decide (x.1 * M.2 < M.1 * x.2) := decide_eq_decide.mpr (by unfold leP; omega)
      rw [ed]
      simp [i0, i1, m1, m2, lt_ii]) hn
  unfold w15
  rw [sSet_eq, eB_eq, aCons_eq, eFr_eq, e]
  simp
theorem w16_eq (x8 x9 x10 x11 x13 x14 x16 x17 x18 : Sl) (h14 : x14.dead = true) (rows : List (Int × Int)) {M : Int × Int} (hM : 0 < M.2 ∧ M.2 ≤ 100000) (hr : ∀ y ∈ rows, okQ y) (hn : rows.length ≤ 1000) :
    w16 ⟨En ns a b c d O P [x8, x9, x10, x11, .va (.lst (rows.map FF)), x13, x14, .va (FF M), x16, x17, x18], st⟩ = .ok .nx ⟨En ns a b c d O P [x8, x9, .va (.int ((rows.filter fun y => decide (¬ leP y M)).length : Nat)), x11, .va (.lst (rows.map FF)), x13, x14, .va (FF M), x16, x17, x18], st⟩ := by
  have i0 : ∀ x y : Int, ixO (F2 x y) (.int 0) = some (.int x) := fun _ _ => rfl
  have i1 : ∀ x y : Int, ixO (F2 x y) (.int 1) = some (.int y) := fun _ _ => rfl
  have gt_ii : ∀ i j : Int, gtO (.int i) (.int j) = some (.bl (decide (i > j))) := fun _ _ => rfl
  have e := lc_qD (st := st) (l := En ns a b c d O P [x8, x9, x10, x11, .va (.lst (rows.map FF)), x13, x14, .va (FF M), x16, x17, x18]) (rows := rows) (t := tOf (eBin gtO (eBin mulO (eBin ixO (eVar 14) (eC (.int 0))) (eBin ixO (eVar 15) (eC (.int 1)))) (eBin mulO (eBin ixO (eVar 15) (eC (.int 0))) (eBin ixO (eVar 14) (eC (.int 1))))))
    (fun y => decide (¬ leP y M)) (by simp) (by simp) (by simpa using h14) (fun x hx => by
      have m1 : mulO (.int x.1) (.int M.2) = some (.int (x.1 * M.2)) := mul_ii (.inr (by omega))
      have m2 : mulO (.int M.1) (.int x.2) = some (.int (M.1 * x.2)) := mul_ii (.inr (by have := (hr x hx).1; have := (hr x hx).2; omega))
      have ed : decide (¬ leP x M) = decide (x.1 * M.2 > M.1 * x.2) := decide_eq_decide.mpr (by unfold leP; omega)
      rw [ed]
      simp [i0, i1, m1, m2, gt_ii]) hn
  unfold w16
  rw [sSet_eq, eB_eq, aCons_eq, eFr_eq, e]
  simp
theorem w17_eq (x8 x11 x13 x14 : Sl) (r : List Sl) (rows : List (Int × Int)) {M : Int × Int} {n1 n2 : Nat} (h1 : 2 * n1 ≤ rows.length) (h2 : 2 * n2 ≤ rows.length) (h3 : rows.length % 2 = 1 → M ∈ rows) :
    w17 ⟨En ns a b c d O P (x8 :: .va (.int (n1 : Nat)) :: .va (.int (n2 : Nat)) :: x11 :: .va (.lst (rows.map FF)) :: x13 :: x14 :: .va (FF M) :: r), st⟩ = .ok .nx ⟨En ns a b c d O P (x8 :: .va (.int (n1 : Nat)) :: .va (.int (n2 : Nat)) :: x11 :: .va (.lst (rows.map FF)) :: x13 :: x14 :: .va (FF M) :: r), st⟩ := by
  have gt_ii : ∀ i j : Int, gtO (.int i) (.int j) = some (.bl (decide (i > j))) := fun _ _ => rfl
  have md := mod_ii (i := (rows.length : Int)) (j := 2) (by omega)
  have eq_ii : ∀ i j : Int, eqO (.int i) (.int j) = some (.bl (decide (i = j))) := fun i j => by simp
  have q1 : ¬ (2 * (n1 : Int) > (rows.length : Int)) := by omega
  have q2 : ¬ (2 * (n2 : Int) > (rows.length : Int)) := by omega
  unfold w17
  by_cases h : rows.length % 2 = 1
  · have q3 : (rows.length : Int) % 2 = 1 := by omega
    have ni := notIn_eq (h3 h)
    simp [m2l, gt_ii, md, eq_ii, q1, q2, q3, ni]
  · have q3 : ¬ (rows.length : Int) % 2 = 1 := by omega
    simp [m2l, gt_ii, md, eq_ii, q1, q2, q3]
end
end Prog
namespace Prog
open PySem PySem.Spec PyProof.Rows L2 Mir
section
variable {ns : List Int} {a b c d : Int} {O P : Int × Int} {st : List Cl}
def bodyB : Stm := sSeq (sIf (tOf (eCall 1 m_is_fraction (aCons (eVar 16) aNil))) (sRet (eC (.bl false))) sNil)
  (sTryAs isa_BadNumber 17 (sSeq (sExpr (eCall 1 m_want_fraction (aCons (eVar 16) aNil)))
  (sRet (eC (.bl false)))) (sIf (tOf (eBin neO (eB (one reprO) (aCons (eXf 17 "BadNumber" "value") aNil)) (eB (one reprO) (aCons (eVar 16) aNil)))) (sRet (eC (.bl false))) sNil))
/-- a value that is no fraction, and can be shown -/
def bad (v : D) : Prop := (∀ st, m_is_fraction [v] st = .ok (.bl false) ⟨[], st⟩) ∧ ∃ s, reprO v = some (.str s) ∧ PyData.strOk s = true
theorem bodyB_eq (x8 x9 x10 x11 x12 x13 x14 x15 x18 : D) (y : Sl) {v : D} (hv : bad v) :
    bodyB ⟨En ns a b c d O P [.va x8, .va x9, .va x10, .va x11, .va x12, .va x13, .va x14, .va x15, .va v, .un, .un], st⟩ = .ok .nx ⟨En ns a b c d O P [.va x8, .va x9, .va x10, .va x11, .va x12, .va x13, .va x14, .va x15, .va v, .un, .un], st⟩ := by
  obtain ⟨h1, s, h2, h3⟩ := hv
  have ew : ∀ st, m_want_fraction [v] st = .ex "BadNumber" [("value", v)] ⟨[], st⟩ := fun st => by
    unfold m_want_fraction b_want_fraction
    rw [fnM_eq]
    simp [callM, h1, sRaise, mkF, fin]
  have hs : neO (.str s) (.str s) = some (.bl false) := by simp [neO, eqO, D.ok, D.py, PyData.eqv, h3]
  unfold bodyB
  rw [seq_nx (S1 := ⟨En ns a b c d O P [.va x8, .va x9, .va x10, .va x11, .va x12, .va x13, .va x14, .va x15, .va v, .un, .un], st⟩) (by simp [callM, h1])]
  have eb : (sSeq (sExpr (eCall 1 m_want_fraction (aCons (eVar 16) aNil))) (sRet (eC (.bl false)))) ⟨En ns a b c d O P [.va x8, .va x9, .va x10, .va x11, .va x12, .va x13, .va x14, .va x15, .va v, .un, .un], st⟩
      = .ex "BadNumber" [("value", v)] ⟨En ns a b c d O P [.va x8, .va x9, .va x10, .va x11, .va x12, .va x13, .va x14, .va x15, .va v, .un, .un], st⟩ := by
    simp [callM, ew]
  unfold sTryAs
  rw [eb]
  simp only [show isa_BadNumber "BadNumber" = true from rfl, if_true]
  rw [if_pos (by show 17 < 19; omega)]
  have en : ((⟨En ns a b c d O P [.va x8, .va x9, .va x10, .va x11, .va x12, .va x13, .va x14, .va x15, .va v, .un, .un], st⟩ : MS).nox).put 17 (.xc "BadNumber" [("value", v)]) = ⟨En ns a b c d O P [.va x8, .va x9, .va x10, .va x11, .va x12, .va x13, .va x14, .va x15, .va v, .xc "BadNumber" [("value", v)], .un], st⟩ := rfl
  rw [en]
  have ef : eXf 17 "BadNumber" "value" ⟨En ns a b c d O P [.va x8, .va x9, .va x10, .va x11, .va x12, .va x13, .va x14, .va x15, .va v, .xc "BadNumber" [("value", v)], .un], st⟩ = .ok v ⟨En ns a b c d O P [.va x8, .va x9, .va x10, .va x11, .va x12, .va x13, .va x14, .va x15, .va v, .xc "BadNumber" [("value", v)], .un], st⟩ := rfl
  have e2 : (sIf (tOf (eBin neO (eB (one reprO) (aCons (eXf 17 "BadNumber" "value") aNil)) (eB (one reprO) (aCons (eVar 16) aNil)))) (sRet (eC (.bl false))) sNil) ⟨En ns a b c d O P [.va x8, .va x9, .va x10, .va x11, .va x12, .va x13, .va x14, .va x15, .va v, .xc "BadNumber" [("value", v)], .un], st⟩
      = .ok .nx ⟨En ns a b c d O P [.va x8, .va x9, .va x10, .va x11, .va x12, .va x13, .va x14, .va x15, .va v, .xc "BadNumber" [("value", v)], .un], st⟩ := by
    simp [ef, h2, hs]
  rw [e2]
  rfl
theorem bad_all : bad .non ∧ bad (F2 1 0) ∧ bad (F2 2 4) ∧ bad (F2 0 2) ∧ bad (.tup [.int 1]) ∧ bad (.tup [.bl true, .int 2]) ∧ bad (.lst [.int 1, .int 2, .int 3]) ∧ bad (.int 5) ∧ bad (F2 1 (-1)) := by
  refine ⟨⟨fun st => rfl, _, rfl, by decide +kernel⟩, ⟨fun st => rfl, _, rfl, by decide +kernel⟩, ⟨fun st => rfl, _, rfl, by decide +kernel⟩, ⟨fun st => rfl, _, rfl, by decide +kernel⟩, ⟨fun st => rfl, _, rfl, by decide +kernel⟩, ⟨fun st => rfl, _, rfl, by decide +kernel⟩, ⟨fun st => rfl, _, rfl, by decide +kernel⟩, ⟨fun st => rfl, _, rfl, by decide +kernel⟩, ⟨fun st => rfl, _, rfl, by decide +kernel⟩⟩
end
end Prog
namespace Prog
open PySem PySem.Spec PyProof.Rows L2 Mir
section
variable {ns : List Int} {a b c d : Int} {O P : Int × Int} {st : List Cl}
theorem w18_cut : w18 = sFor (iSeq (eLst (aCons (eC .non) (aCons (eTup (aCons (eC (.int 1)) (aCons (eC (.int 0)) aNil))) (aCons (eTup (aCons (eC (.int 2)) (aCons (eC (.int 4)) aNil))) (aCons (eTup (aCons (eC (.int 0)) (aCons (eC (.int 2)) aNil))) (aCons (eTup (aCons (eC (.int 1)) aNil)) (aCons (eTup (aCons (eC (.bl true)) (aCons (eC (.int 2)) aNil))) (aCons (eLst (aCons (eC (.int 1)) (aCons (eC (.int 2)) (aCons (eC (.int 3)) aNil)))) (aCons (eC (.int 5)) (aCons (eTup (aCons (eC (.int 1)) (aCons (eUn negO (eC (.int 1))) aNil))) aNil))))))))))) (gNm 16) bodyB := rfl
theorem w18_for (x8 x9 x10 x11 x12 x13 x14 x15 : D) : ∀ (ds : List D) (v : Sl), (∀ d ∈ ds, bad d) → ∃ v', forL (gNm 16) bodyB ds ⟨En ns a b c d O P [.va x8, .va x9, .va x10, .va x11, .va x12, .va x13, .va x14, .va x15, v, .un, .un], st⟩ = .ok .nx ⟨En ns a b c d O P [.va x8, .va x9, .va x10, .va x11, .va x12, .va x13, .va x14, .va x15, v', .un, .un], st⟩
  | [], v, _ => ⟨v, rfl⟩
  | e :: ds, v, h => by
    obtain ⟨v', e2⟩ := w18_for x8 x9 x10 x11 x12 x13 x14 x15 ds (.va e) fun d hd => h d (List.mem_cons_of_mem _ hd)
    refine ⟨v', ?_⟩
    unfold forL
    rw [show gNm 16 e ⟨En ns a b c d O P [.va x8, .va x9, .va x10, .va x11, .va x12, .va x13, .va x14, .va x15, v, .un, .un], st⟩ = some ⟨En ns a b c d O P [.va x8, .va x9, .va x10, .va x11, .va x12, .va x13, .va x14, .va x15, .va e, .un, .un], st⟩ from rfl]
    simp only [bodyB_eq x8 x9 x10 x11 x12 x13 x14 x15 .non .un (h e List.mem_cons_self)]
    exact e2
theorem w18_eq (x8 x9 x10 x11 x12 x13 x14 x15 : D) : ∃ v, w18 ⟨En ns a b c d O P [.va x8, .va x9, .va x10, .va x11, .va x12, .va x13, .va x14, .va x15, .un, .un, .un], st⟩ = .ok .nx ⟨En ns a b c d O P [.va x8, .va x9, .va x10, .va x11, .va x12, .va x13, .va x14, .va x15, v, .un, .un], st⟩ := by
  obtain ⟨v, e⟩ := w18_for (ns := ns) (a := a) (b := b) (c := c) (d := d) (O := O) (P := P) (st := st) x8 x9 x10 x11 x12 x13 x14 x15 [.non, F2 1 0, F2 2 4, F2 0 2, .tup [.int 1], .tup [.bl true, .int 2], .lst [.int 1, .int 2, .int 3], .int 5, F2 1 (-1)] .un (by
      obtain ⟨h1, h2, h3, h4, h5, h6, h7, h8, h9⟩ := bad_all
      intro d hd
      simp only [List.mem_cons, List.not_mem_nil, or_false] at hd
      rcases hd with e | e | e | e | e | e | e | e | e
      · rw [e]; exact h1
      · rw [e]; exact h2
      · rw [e]; exact h3
      · rw [e]; exact h4
      · rw [e]; exact h5
      · rw [e]; exact h6
      · rw [e]; exact h7
      · rw [e]; exact h8
      · rw [e]; exact h9)
  refine ⟨v, ?_⟩
  rw [w18_cut, sFor_eq]
  have es : iSeq (eLst (aCons (eC .non) (aCons (eTup (aCons (eC (.int 1)) (aCons (eC (.int 0)) aNil))) (aCons (eTup (aCons (eC (.int 2)) (aCons (eC (.int 4)) aNil))) (aCons (eTup (aCons (eC (.int 0)) (aCons (eC (.int 2)) aNil))) (aCons (eTup (aCons (eC (.int 1)) aNil)) (aCons (eTup (aCons (eC (.bl true)) (aCons (eC (.int 2)) aNil))) (aCons (eLst (aCons (eC (.int 1)) (aCons (eC (.int 2)) (aCons (eC (.int 3)) aNil)))) (aCons (eC (.int 5)) (aCons (eTup (aCons (eC (.int 1)) (aCons (eUn negO (eC (.int 1))) aNil))) aNil)))))))))) ⟨En ns a b c d O P [.va x8, .va x9, .va x10, .va x11, .va x12, .va x13, .va x14, .va x15, .un, .un, .un], st⟩
    = .ok [.non, F2 1 0, F2 2 4, F2 0 2, .tup [.int 1], .tup [.bl true, .int 2], .lst [.int 1, .int 2, .int 3], .int 5, F2 1 (-1)] ⟨En ns a b c d O P [.va x8, .va x9, .va x10, .va x11, .va x12, .va x13, .va x14, .va x15, .un, .un, .un], st⟩ := by simp [show negO (.int 1) = some (.int (-1)) from rfl]
  rw [es, bind_ok]
  exact e
theorem Tw.w19 (h : Tw a b c d O P) (r : List Sl) : w19 ⟨En ns a b c d O P r, st⟩ = .ok (.rt (.bl true)) ⟨En ns a b c d O P r, st⟩ := by
  have w := want_list h.fO (by have := h.okO.2; omega) st
  have al := alike_FF 28 O st
  have li : listO (FF O) = some (.lst [.int O.1, .int O.2]) := rfl
  unfold Prog.w19
  simp [callM, w, al, li]
theorem half_bd {x : Int × Int} {l : List (Int × Int)} (hl : ∀ p ∈ x :: l, okQ p) {f g : Int × Int} {i j : Nat} (ef : (sortP (x :: l))[i]? = some f) (eg : (sortP (x :: l))[j]? = some g) : 0 < (halfP f g).2 ∧ (halfP f g).2 ≤ 100000 := by
  have perm := sort_perm fun p h => (hl p h).1
  have qf := hl f (perm.mem_iff.mp (List.mem_of_getElem? ef))
  have qg := hl g (perm.mem_iff.mp (List.mem_of_getElem? eg))
  have b1 : f.2 * g.2 ≤ 60 * 60 := Int.mul_le_mul qf.2 qg.2 (by have := qg.1; omega) (by omega)
  have b2 : 0 < f.2 * g.2 := Int.mul_pos qf.1 qg.1
  have r1 := redP_pos (a := f.1 * g.2 + g.1 * f.2) b2
  have hw : 0 < (addP f g).2 ∧ (addP f g).2 ≤ 3600 := ⟨r1.1, Int.le_trans r1.2 b1⟩
  have r2 := redP_pos (a := (addP f g).1 * 1) (b := (addP f g).2 * 2) (by omega)
  exact ⟨r2.1, Int.le_trans r2.2 (by omega)⟩
end
theorem law_true (ns : List Int) (_ : ns.length ≤ 63) : ∃ S, m_law [.scr ns] [] = .ok (.bl true) S := by
  obtain ⟨a, b, c, d, p, s, q, h0, hp, e2⟩ := w2_eq ns [.un, .un, .un, .un, .un, .un, .un, .un, .un, .un, .un, .un, .un]
  have h := h0.tw
  have e3 := w3_eq (ns := ns) h0 un11 [row ns p s q]
  generalize redP a b = O at *
  generalize redP c d = P at *
  obtain ⟨L, p', s', q', hL, hl4, e11⟩ := h.w11 (ns := ns) (.va (.lst (rngD (-61) 123))) (.va (.int (O.1 / O.2))) (.va (.int (-(-O.1 / O.2)))) (.va (.int ((2 * O.1 + O.2) / (2 * O.2)))) .un .un (p := p) (s := s) (q := q) hp
  have rowsQ : ∀ y ∈ O :: P :: L, okQ y ∧ Fra y.1 y.2 := fun y hy => by
    rcases List.mem_cons.mp hy with rfl | hy
    · exact ⟨h.okO, h.fO⟩
    rcases List.mem_cons.mp hy with rfl | hy
    · exact ⟨h.okP, h.fP⟩
    · exact ⟨⟨(hL y hy).1, Int.le_trans (hL y hy).2.1 (by omega)⟩, (hL y hy).2.2⟩
  have rowsP : ∀ y ∈ O :: P :: L, 0 < y.2 := fun y hy => (rowsQ y hy).1.1
  have pr := prod_rows h.okO h.okP hL hl4
  have hlen : (O :: P :: L).length ≤ 1000 := by simp only [List.length_cons]; omega
  obtain ⟨f, g, ef, eg, em⟩ := median_eq (a := O) (l := P :: L) (fun y hy => (rowsQ y hy).1) (by rw [List.length_cons]; omega) [row ns p' s' q']
  obtain ⟨_, k1, k2, k3⟩ := mid_ok rowsQ ef eg
  have hM := half_bd (fun y hy => (rowsQ y hy).1) ef eg
  generalize halfP f g = M at *
  obtain ⟨d14, e12⟩ := w12_eq (ns := ns) (a := a) (b := b) (c := c) (d := d) (O := O) (P := P) (st := [row ns p' s' q']) (.va (.lst (rngD (-61) 123))) (.va (.int (O.1 / O.2))) (.va (.int (-(-O.1 / O.2)))) (.va (.int ((2 * O.1 + O.2) / (2 * O.2)))) (O :: P :: L) rowsP pr (by simp)
  generalize hrows : O :: P :: L = rows at *
  have hlr : (P :: L).length + 1 = rows.length := by rw [← hrows]; rfl
  rw [hlr] at k1 k2 k3
  unfold m_law
  rw [fnM_eq, b_law_cut]
  show ∃ S, fin (sSeq w1 _ ⟨[.va (.scr ns), .un, .un, .un, .un, .un, .un, .un, .un, .un, .un, .un, .un, .un, .un, .un, .un, .un, .un], []⟩) = _
  rw [seq_nx (w1_eq ns _), seq_nx e2, seq_nx e3, seq_nx (h.w4 _), seq_nx (h.w5 _), seq_nx (h.w6 _), seq_nx (h.w7 _ _), seq_nx (h.w8 _ _ _ rfl rfl), seq_nx (h.w9 _ _ _ _ rfl rfl), seq_nx (h.w10 _ _), seq_nx e11, seq_nx e12,
    seq_nx (w13_eq _ _ _ _ .un _ rows rowsP pr), seq_nx (w14_eq _ _ _ _ _ _ _ _ rows em), seq_nx (w15_eq _ _ _ _ _ _ _ _ _ rfl rows hM (fun y hy => (rowsQ y hy).1) hlen), seq_nx (w16_eq _ _ _ _ _ _ _ _ _ rfl rows hM (fun y hy => (rowsQ y hy).1) hlen),
    seq_nx (w17_eq _ _ _ _ _ rows k1 k2 k3)]
  obtain ⟨v, e18⟩ := w18_eq (ns := ns) (a := a) (b := b) (c := c) (d := d) (O := O) (P := P) (st := [row ns p' s' q']) (.lst (rngD (-61) 123)) (.int ((rows.filter fun y => decide (¬ leP M y)).length : Nat)) (.int ((rows.filter fun y => decide (¬ leP y M)).length : Nat)) (.int ((2 * O.1 + O.2) / (2 * O.2))) (.lst (rows.map FF)) (FF (rows.foldl addP (0, 1))) d14 (FF M)
  rw [seq_nx e18, h.w19]
  exact ⟨_, rfl⟩
end Prog
namespace Prog
open PySem PySem.Spec PyProof.Rows L2 Mir
/-! ### what the written part says -/
abbrev cl_ (C_CoinsError C_BadNumber : Addr) : List (Str × Addr) := [("CoinsError", C_CoinsError), ("BadNumber", C_BadNumber)]
abbrev tc (K : PySem.W.Frag) (C_CoinsError C_BadNumber : Addr) : Cfg := ⟨K, fun c => (cl_ C_CoinsError C_BadNumber).lookup c⟩
structure Txt (P : Program) (K : PySem.W.Frag) (mg : Str → Option Value) (f_is_whole f_is_row f_reduced f_is_fraction f_want_fraction f_plus f_minus f_times f_over f_is_less f_floor_of f_ceiling_of f_nearest f_total f_median f_law_taken f_law_alike f_law_truth f_law_low f_law : Addr) (fd_is_whole fd_is_row fd_reduced fd_is_fraction fd_want_fraction fd_plus fd_minus fd_times fd_over fd_is_less fd_floor_of fd_ceiling_of fd_nearest fd_total fd_median fd_law_taken fd_law_alike fd_law_truth fd_law_low fd_law : FuncData) (C_CoinsError C_BadNumber fI_BadNumber cda_BadNumber cc_BadNumber : Addr) : Prop where
  n_abs : mg "abs" = none
  n_bool : mg "bool" = none
  n_int : mg "int" = none
  n_isinstance : mg "isinstance" = none
  n_len : mg "len" = none
  n_list : mg "list" = none
  n_max : mg "max" = none
  n_min : mg "min" = none
  n_range : mg "range" = none
  n_repr : mg "repr" = none
  n_str : mg "str" = none
  n_tuple : mg "tuple" = none
  g_is_whole : mg "is_whole" = some (.ref f_is_whole)
  k_is_whole : PySem.W.keepIn K (.ref f_is_whole) = true
  F_is_whole : Fun K "is_whole" "is_whole" (top 4) f_is_whole fd_is_whole
  b_is_whole : Binds K fd_is_whole ["value"] []
  g_is_row : mg "is_row" = some (.ref f_is_row)
  k_is_row : PySem.W.keepIn K (.ref f_is_row) = true
  F_is_row : Fun K "is_row" "is_row" (top 5) f_is_row fd_is_row
  b_is_row : Binds K fd_is_row ["value"] []
  g_reduced : mg "reduced" = some (.ref f_reduced)
  k_reduced : PySem.W.keepIn K (.ref f_reduced) = true
  F_reduced : Fun K "reduced" "reduced" (top 7) f_reduced fd_reduced
  b_reduced : Binds K fd_reduced ["top", "bottom"] []
  g_is_fraction : mg "is_fraction" = some (.ref f_is_fraction)
  k_is_fraction : PySem.W.keepIn K (.ref f_is_fraction) = true
  F_is_fraction : Fun K "is_fraction" "is_fraction" (top 8) f_is_fraction fd_is_fraction
  b_is_fraction : Binds K fd_is_fraction ["value"] []
  g_want_fraction : mg "want_fraction" = some (.ref f_want_fraction)
  k_want_fraction : PySem.W.keepIn K (.ref f_want_fraction) = true
  F_want_fraction : Fun K "want_fraction" "want_fraction" (top 9) f_want_fraction fd_want_fraction
  b_want_fraction : Binds K fd_want_fraction ["value"] []
  g_plus : mg "plus" = some (.ref f_plus)
  k_plus : PySem.W.keepIn K (.ref f_plus) = true
  F_plus : Fun K "plus" "plus" (top 10) f_plus fd_plus
  b_plus : Binds K fd_plus ["one", "other"] []
  g_minus : mg "minus" = some (.ref f_minus)
  k_minus : PySem.W.keepIn K (.ref f_minus) = true
  F_minus : Fun K "minus" "minus" (top 11) f_minus fd_minus
  b_minus : Binds K fd_minus ["one", "other"] []
  g_times : mg "times" = some (.ref f_times)
  k_times : PySem.W.keepIn K (.ref f_times) = true
  F_times : Fun K "times" "times" (top 12) f_times fd_times
  b_times : Binds K fd_times ["one", "other"] []
  g_over : mg "over" = some (.ref f_over)
  k_over : PySem.W.keepIn K (.ref f_over) = true
  F_over : Fun K "over" "over" (top 13) f_over fd_over
  b_over : Binds K fd_over ["one", "other"] []
  g_is_less : mg "is_less" = some (.ref f_is_less)
  k_is_less : PySem.W.keepIn K (.ref f_is_less) = true
  F_is_less : Fun K "is_less" "is_less" (top 14) f_is_less fd_is_less
  b_is_less : Binds K fd_is_less ["one", "other"] []
  g_floor_of : mg "floor_of" = some (.ref f_floor_of)
  k_floor_of : PySem.W.keepIn K (.ref f_floor_of) = true
  F_floor_of : Fun K "floor_of" "floor_of" (top 15) f_floor_of fd_floor_of
  b_floor_of : Binds K fd_floor_of ["one"] []
  g_ceiling_of : mg "ceiling_of" = some (.ref f_ceiling_of)
  k_ceiling_of : PySem.W.keepIn K (.ref f_ceiling_of) = true
  F_ceiling_of : Fun K "ceiling_of" "ceiling_of" (top 16) f_ceiling_of fd_ceiling_of
  b_ceiling_of : Binds K fd_ceiling_of ["one"] []
  g_nearest : mg "nearest" = some (.ref f_nearest)
  k_nearest : PySem.W.keepIn K (.ref f_nearest) = true
  F_nearest : Fun K "nearest" "nearest" (top 17) f_nearest fd_nearest
  b_nearest : Binds K fd_nearest ["one"] []
  g_total : mg "total" = some (.ref f_total)
  k_total : PySem.W.keepIn K (.ref f_total) = true
  F_total : Fun K "total" "total" (top 18) f_total fd_total
  b_total : Binds K fd_total ["rows"] []
  g_median : mg "median" = some (.ref f_median)
  k_median : PySem.W.keepIn K (.ref f_median) = true
  F_median : Fun K "median" "median" (top 19) f_median fd_median
  b_median : Binds K fd_median ["rows"] []
  g_law_taken : mg "_law_taken" = some (.ref f_law_taken)
  k_law_taken : PySem.W.keepIn K (.ref f_law_taken) = true
  F_law_taken : Fun K "_law_taken" "_law_taken" (top 21) f_law_taken fd_law_taken
  b_law_taken : Binds K fd_law_taken ["row", "many"] []
  g_law_alike : mg "_law_alike" = some (.ref f_law_alike)
  k_law_alike : PySem.W.keepIn K (.ref f_law_alike) = true
  F_law_alike : Fun K "_law_alike" "_law_alike" (top 22) f_law_alike fd_law_alike
  b_law_alike : Binds K fd_law_alike ["found", "due"] []
  g_law_truth : mg "_law_truth" = some (.ref f_law_truth)
  k_law_truth : PySem.W.keepIn K (.ref f_law_truth) = true
  F_law_truth : Fun K "_law_truth" "_law_truth" (top 23) f_law_truth fd_law_truth
  b_law_truth : Binds K fd_law_truth ["found", "due"] []
  g_law_low : mg "_law_low" = some (.ref f_law_low)
  k_law_low : PySem.W.keepIn K (.ref f_law_low) = true
  F_law_low : Fun K "_law_low" "_law_low" (top 24) f_law_low fd_law_low
  b_law_low : Binds K fd_law_low ["top", "bottom"] []
  g_law : mg "law" = some (.ref f_law)
  k_law : PySem.W.keepIn K (.ref f_law) = true
  F_law : Fun K "law" "law" (top 25) f_law fd_law
  b_law : Binds K fd_law ["script"] []
  gc_BadNumber : mg "BadNumber" = some (.ref C_BadNumber)
  x_BadNumber : XfC K C_BadNumber
  isa_BadNumber : Isa (tc K C_CoinsError C_BadNumber) K (.ref C_BadNumber) isa_BadNumber
  e_BadNumber : ErrC P K mg C_BadNumber cda_BadNumber cc_BadNumber
  i_BadNumber : ErrI K C_BadNumber fI_BadNumber cda_BadNumber cc_BadNumber "BadNumber.__init__" (eA1 "value" ⟨6, 17, 6, 21⟩ ⟨6, 23, 6, 28⟩) [eSup [.Name "value" ⟨7, 25, 7, 30⟩] ⟨7, 8, 7, 13⟩ ⟨7, 8, 7, 15⟩ ⟨7, 8, 7, 24⟩ ⟨7, 8, 7, 31⟩ ⟨7, 8, 7, 31⟩, eSet "value" ⟨8, 8, 8, 12⟩ ⟨8, 8, 8, 18⟩ ⟨8, 21, 8, 26⟩ ⟨8, 8, 8, 26⟩] (eS1 "value")
  o_BadNumber_value : PySem.W.findIn K (.ref C_BadNumber) "value" = some none
section
variable {P : Program} {w : World} {K : PySem.W.Frag} {mg : Str → Option Value} {base : Heap} {f_is_whole f_is_row f_reduced f_is_fraction f_want_fraction f_plus f_minus f_times f_over f_is_less f_floor_of f_ceiling_of f_nearest f_total f_median f_law_taken f_law_alike f_law_truth f_law_low f_law : Addr} {fd_is_whole fd_is_row fd_reduced fd_is_fraction fd_want_fraction fd_plus fd_minus fd_times fd_over fd_is_less fd_floor_of fd_ceiling_of fd_nearest fd_total fd_median fd_law_taken fd_law_alike fd_law_truth fd_law_low fd_law : FuncData} {C_CoinsError C_BadNumber fI_BadNumber cda_BadNumber cc_BadNumber : Addr}
theorem c_CoinsError : (tc K C_CoinsError C_BadNumber).cls "CoinsError" = some C_CoinsError := by
  show (cl_ C_CoinsError C_BadNumber).lookup ("CoinsError" : Str) = _
  unfold cl_
  first | exact look_eq | (repeat (rw [look_ne (by decide)]); exact look_eq)
theorem c_BadNumber : (tc K C_CoinsError C_BadNumber).cls "BadNumber" = some C_BadNumber := by
  show (cl_ C_CoinsError C_BadNumber).lookup ("BadNumber" : Str) = _
  unfold cl_
  first | exact look_eq | (repeat (rw [look_ne (by decide)]); exact look_eq)
theorem ba_BadNumber (kV doc pm : Value) (an : Option Addr) (ct x v0 : Value) : bindArgs (PySem.W.ksFn "__init__" "BadNumber.__init__" (eA1 "value" ⟨6, 17, 6, 21⟩ ⟨6, 23, 6, 28⟩) [eSup [.Name "value" ⟨7, 25, 7, 30⟩] ⟨7, 8, 7, 13⟩ ⟨7, 8, 7, 15⟩ ⟨7, 8, 7, 24⟩ ⟨7, 8, 7, 31⟩ ⟨7, 8, 7, 31⟩, eSet "value" ⟨8, 8, 8, 12⟩ ⟨8, 8, 8, 18⟩ ⟨8, 21, 8, 26⟩ ⟨8, 8, 8, 26⟩] (eS1 "value") .none kV doc pm an (.ref cda_BadNumber) ct cc_BadNumber) ⟨[x, v0], []⟩ = pure [(("self" : Str), x), (("value" : Str), v0)] := by first | rfl | with_unfolding_all rfl
theorem sc_BadNumber (L : Addr) : SupCall (PySem.W.ksEnv "BadNumber.__init__" (eS1 "value") L fI_BadNumber (.ref cda_BadNumber) cc_BadNumber) ⟨7, 8, 7, 13⟩ ⟨7, 8, 7, 15⟩ ⟨7, 8, 7, 24⟩ ⟨7, 8, 7, 31⟩ [.Name "value" ⟨7, 25, 7, 30⟩] := ⟨_, by rfl⟩
theorem s_is_whole : FnScope ["value"] ["value"] (defScope (top 4)) := ⟨rfl, rfl, rfl, by decide +kernel, rfl, by decide +kernel, by decide +kernel⟩
theorem ok_is_whole (X0 : Txt P K mg f_is_whole f_is_row f_reduced f_is_fraction f_want_fraction f_plus f_minus f_times f_over f_is_less f_floor_of f_ceiling_of f_nearest f_total f_median f_law_taken f_law_alike f_law_truth f_law_low f_law fd_is_whole fd_is_row fd_reduced fd_is_fraction fd_want_fraction fd_plus fd_minus fd_times fd_over fd_is_less fd_floor_of fd_ceiling_of fd_nearest fd_total fd_median fd_law_taken fd_law_alike fd_law_truth fd_law_low fd_law C_CoinsError C_BadNumber fI_BadNumber cda_BadNumber cc_BadNumber) : FnG P w K mg base (1) f_is_whole fd_is_whole ["value"] (spM (tc K C_CoinsError C_BadNumber) (m_is_whole) 1) := by
  have sc := s_is_whole
  exact
      def_of (T := tc K C_CoinsError C_BadNumber) (N := ["value"]) (ps := ["value"]) (k := 0) (m := b_is_whole) X0.F_is_whole sc fun cdv A outer s H E hr hgd =>
    (z_one (y_ret (r_and (r_isi (by rfl) (by rfl) X0.n_isinstance (by rfl) X0.n_int (by first | boot_by_name | rfl | kernel_rfl) (r_var 0) (by decide) (by decide) (by rfl) (by rfl) (by rfl)) (r_and1 (r_not (r_isi (by rfl) (by rfl) X0.n_isinstance (by rfl) X0.n_bool (by first | boot_by_name | rfl | kernel_rfl) (r_var 0) (by decide) (by decide) (by rfl) (by rfl) (by rfl)))))))
theorem s_is_row : FnScope ["value"] ["value"] (defScope (top 5)) := ⟨rfl, rfl, rfl, by decide +kernel, rfl, by decide +kernel, by decide +kernel⟩
theorem ok_is_row (X0 : Txt P K mg f_is_whole f_is_row f_reduced f_is_fraction f_want_fraction f_plus f_minus f_times f_over f_is_less f_floor_of f_ceiling_of f_nearest f_total f_median f_law_taken f_law_alike f_law_truth f_law_low f_law fd_is_whole fd_is_row fd_reduced fd_is_fraction fd_want_fraction fd_plus fd_minus fd_times fd_over fd_is_less fd_floor_of fd_ceiling_of fd_nearest fd_total fd_median fd_law_taken fd_law_alike fd_law_truth fd_law_low fd_law C_CoinsError C_BadNumber fI_BadNumber cda_BadNumber cc_BadNumber) : FnG P w K mg base (1) f_is_row fd_is_row ["value"] (spM (tc K C_CoinsError C_BadNumber) (m_is_row) 1) := by
  have sc := s_is_row
  exact
      def_of (T := tc K C_CoinsError C_BadNumber) (N := ["value"]) (ps := ["value"]) (k := 0) (m := b_is_row) X0.F_is_row sc fun cdv A outer s H E hr hgd =>
    (z_one (y_ret (r_isi2 (by rfl) (by rfl) X0.n_isinstance (by rfl) X0.n_list (by first | boot_by_name | rfl | kernel_rfl) (by rfl) X0.n_tuple (by first | boot_by_name | rfl | kernel_rfl) (r_var 0) (by decide) (by decide) (by decide) (by decide) (by rfl) (by rfl) (by rfl) (by rfl) (by rfl))))
theorem s_reduced : FnScope ["top", "bottom", "one", "other"] ["top", "bottom"] (defScope (top 7)) := ⟨rfl, rfl, rfl, by decide +kernel, rfl, by decide +kernel, by decide +kernel⟩
theorem ok_reduced (X0 : Txt P K mg f_is_whole f_is_row f_reduced f_is_fraction f_want_fraction f_plus f_minus f_times f_over f_is_less f_floor_of f_ceiling_of f_nearest f_total f_median f_law_taken f_law_alike f_law_truth f_law_low f_law fd_is_whole fd_is_row fd_reduced fd_is_fraction fd_want_fraction fd_plus fd_minus fd_times fd_over fd_is_less fd_floor_of fd_ceiling_of fd_nearest fd_total fd_median fd_law_taken fd_law_alike fd_law_truth fd_law_low fd_law C_CoinsError C_BadNumber fI_BadNumber cda_BadNumber cc_BadNumber) : FnG P w K mg base (1) f_reduced fd_reduced ["top", "bottom"] (spM (tc K C_CoinsError C_BadNumber) (m_reduced) 2) := by
  have sc := s_reduced
  exact
      def_of (T := tc K C_CoinsError C_BadNumber) (N := ["top", "bottom", "one", "other"]) (ps := ["top", "bottom"]) (k := 0) (m := b_reduced) X0.F_reduced sc fun cdv A outer s H E hr hgd =>
    (z_cons (y_par2 (i := 2) (j := 3) (by rfl) sc.nd (by rfl) (by rfl) (by decide) (by rfl) (by rfl) (s_cons (r_callB call_abs g_abs (by rfl) X0.n_abs (by first | boot_by_name | rfl | kernel_rfl) (s_cons (r_var 0) s_nil (by rfl)) (by decide) (by decide) (by rfl) (by rfl)) (s_cons (r_var 1) s_nil (by rfl)) (by rfl)) (by first | rfl | kernel_rfl) (by rfl))
    (z_cons (y_while (by exact passes_of rfl) (q_cmp op_gt g_gt (r_var 3) r_int (by first | exact nomark _ | with_unfolding_all rfl)) (z_one (y_par2 (i := 2) (j := 3) (by rfl) sc.nd (by rfl) (by rfl) (by decide) (by rfl) (by rfl) (s_cons (r_var 3) (s_cons (r_bin op_mod g_mod (r_var 2) (r_var 3)) s_nil (by rfl)) (by rfl)) (by first | rfl | kernel_rfl) (by rfl))))
    (z_one (y_ret (r_if (q_cmp op_gt g_gt (r_var 2) r_int (by first | exact nomark _ | with_unfolding_all rfl)) (r_tup (s_cons (r_bin op_fdiv g_fdiv (r_var 0) (r_var 2)) (s_cons (r_bin op_fdiv g_fdiv (r_var 1) (r_var 2)) s_nil (by rfl)) (by rfl))) (r_tup (s_cons r_int (s_cons r_int s_nil (by rfl)) (by rfl))))))))
theorem s_is_fraction : FnScope ["value"] ["value"] (defScope (top 8)) := ⟨rfl, rfl, rfl, by decide +kernel, rfl, by decide +kernel, by decide +kernel⟩
theorem ok_is_fraction (X0 : Txt P K mg f_is_whole f_is_row f_reduced f_is_fraction f_want_fraction f_plus f_minus f_times f_over f_is_less f_floor_of f_ceiling_of f_nearest f_total f_median f_law_taken f_law_alike f_law_truth f_law_low f_law fd_is_whole fd_is_row fd_reduced fd_is_fraction fd_want_fraction fd_plus fd_minus fd_times fd_over fd_is_less fd_floor_of fd_ceiling_of fd_nearest fd_total fd_median fd_law_taken fd_law_alike fd_law_truth fd_law_low fd_law C_CoinsError C_BadNumber fI_BadNumber cda_BadNumber cc_BadNumber) : FnG P w K mg base (2) f_is_fraction fd_is_fraction ["value"] (spM (tc K C_CoinsError C_BadNumber) (m_is_fraction) 1) := by
  have G_reduced := ok_reduced (w := w) (base := base) X0
  have G_is_row := ok_is_row (w := w) (base := base) X0
  have G_is_whole := ok_is_whole (w := w) (base := base) X0
  have sc := s_is_fraction
  exact
      def_of (T := tc K C_CoinsError C_BadNumber) (N := ["value"]) (ps := ["value"]) (k := 1) (m := b_is_fraction) X0.F_is_fraction sc fun cdv A outer s H E hr hgd =>
    (z_cons (y_if (PW.pt (q_or (q_not (q_val (r_call G_is_row (by exact hr.mono (by omega)) (by exact hgd) (by rfl) X0.g_is_row X0.k_is_row X0.b_is_row (by exact takes_of rfl rfl rfl rfl) (s_cons (r_var 0) s_nil (by rfl)) (by decide) (by rfl) (by rfl)) (by intro _; rfl))) (q_or (q_cmp (op_neD (by have h := Mir.u64 hr; exact h)) g_ne (r_callB call_lenM g_len (by rfl) X0.n_len (by first | boot_by_name | rfl | kernel_rfl) (s_cons (r_var 0) s_nil (by rfl)) (by decide) (by decide) (by rfl) (by rfl)) r_int (by first | exact nomark _ | with_unfolding_all rfl)) (q_or (q_not (q_val (r_call G_is_whole (by exact hr.mono (by omega)) (by exact hgd) (by rfl) X0.g_is_whole X0.k_is_whole X0.b_is_whole (by exact takes_of rfl rfl rfl rfl) (s_cons (r_ix (by rfl) (by have h := Mir.u1 hr; exact h) (r_var 0) r_int (by exact fun _ _ => rfl)) s_nil (by rfl)) (by decide) (by rfl) (by rfl)) (by intro _; rfl))) (q_or (q_not (q_val (r_call G_is_whole (by exact hr.mono (by omega)) (by exact hgd) (by rfl) X0.g_is_whole X0.k_is_whole X0.b_is_whole (by exact takes_of rfl rfl rfl rfl) (s_cons (r_ix (by rfl) (by have h := Mir.u1 hr; exact h) (r_var 0) r_int (by exact fun _ _ => rfl)) s_nil (by rfl)) (by decide) (by rfl) (by rfl)) (by intro _; rfl))) (q_or1 (q_cmp op_lt g_lt (r_ix (by rfl) (by have h := Mir.u1 hr; exact h) (r_var 0) r_int (by exact fun _ _ => rfl)) r_int (by first | exact nomark _ | with_unfolding_all rfl)))))))) (z_one (y_ret r_bl)) z_nil)
    (z_one (y_ret (r_cmp (op_eqD (by have h := Mir.u64 hr; exact h)) g_eq (r_call G_reduced (by exact hr.mono (by omega)) (by exact hgd) (by rfl) X0.g_reduced X0.k_reduced X0.b_reduced (by exact takes_of rfl rfl rfl rfl) (s_cons (r_ix (by rfl) (by have h := Mir.u1 hr; exact h) (r_var 0) r_int (by exact fun _ _ => rfl)) (s_cons (r_ix (by rfl) (by have h := Mir.u1 hr; exact h) (r_var 0) r_int (by exact fun _ _ => rfl)) s_nil (by rfl)) (by rfl)) (by decide) (by rfl) (by rfl)) (r_tup (s_cons (r_ix (by rfl) (by have h := Mir.u1 hr; exact h) (r_var 0) r_int (by exact fun _ _ => rfl)) (s_cons (r_ix (by rfl) (by have h := Mir.u1 hr; exact h) (r_var 0) r_int (by exact fun _ _ => rfl)) s_nil (by rfl)) (by rfl))) (by first | exact nomark _ | with_unfolding_all rfl)))))
theorem s_want_fraction : FnScope ["value"] ["value"] (defScope (top 9)) := ⟨rfl, rfl, rfl, by decide +kernel, rfl, by decide +kernel, by decide +kernel⟩
theorem ok_want_fraction (X0 : Txt P K mg f_is_whole f_is_row f_reduced f_is_fraction f_want_fraction f_plus f_minus f_times f_over f_is_less f_floor_of f_ceiling_of f_nearest f_total f_median f_law_taken f_law_alike f_law_truth f_law_low f_law fd_is_whole fd_is_row fd_reduced fd_is_fraction fd_want_fraction fd_plus fd_minus fd_times fd_over fd_is_less fd_floor_of fd_ceiling_of fd_nearest fd_total fd_median fd_law_taken fd_law_alike fd_law_truth fd_law_low fd_law C_CoinsError C_BadNumber fI_BadNumber cda_BadNumber cc_BadNumber) : FnG P w K mg base (3) f_want_fraction fd_want_fraction ["value"] (spM (tc K C_CoinsError C_BadNumber) (m_want_fraction) 1) := by
  have G_is_fraction := ok_is_fraction (w := w) (base := base) X0
  have sc := s_want_fraction
  exact
      def_of (T := tc K C_CoinsError C_BadNumber) (N := ["value"]) (ps := ["value"]) (k := 2) (m := b_want_fraction) X0.F_want_fraction sc fun cdv A outer s H E hr hgd =>
    (z_cons (y_if (q_not (q_val (r_call G_is_fraction (by exact hr.mono (by omega)) (by exact hgd) (by rfl) X0.g_is_fraction X0.k_is_fraction X0.b_is_fraction (by exact takes_of rfl rfl rfl rfl) (s_cons (r_var 0) s_nil (by rfl)) (by decide) (by rfl) (by rfl)) (by intro _; rfl))) (z_one (y_raise (by rfl) (by exact takes_of rfl rfl rfl rfl) (k_fld c_BadNumber (pmk_err1 X0.e_BadNumber X0.i_BadNumber (by decide) ba_BadNumber sc_BadNumber X0.o_BadNumber_value (by exact hr) (by rfl) X0.gc_BadNumber (s_cons (r_var 0) s_nil (by rfl)))))) z_nil)
    (z_one (y_ret (r_callTy call_tuple_of g_tuple (by rfl) X0.n_tuple (by first | boot_by_name | rfl | kernel_rfl) (s_cons (r_var 0) s_nil (by rfl)) (by decide) (by decide) (by rfl) (by rfl)))))
theorem s_plus : FnScope ["one", "other"] ["one", "other"] (defScope (top 10)) := ⟨rfl, rfl, rfl, by decide +kernel, rfl, by decide +kernel, by decide +kernel⟩
theorem ok_plus (X0 : Txt P K mg f_is_whole f_is_row f_reduced f_is_fraction f_want_fraction f_plus f_minus f_times f_over f_is_less f_floor_of f_ceiling_of f_nearest f_total f_median f_law_taken f_law_alike f_law_truth f_law_low f_law fd_is_whole fd_is_row fd_reduced fd_is_fraction fd_want_fraction fd_plus fd_minus fd_times fd_over fd_is_less fd_floor_of fd_ceiling_of fd_nearest fd_total fd_median fd_law_taken fd_law_alike fd_law_truth fd_law_low fd_law C_CoinsError C_BadNumber fI_BadNumber cda_BadNumber cc_BadNumber) : FnG P w K mg base (2) f_plus fd_plus ["one", "other"] (spM (tc K C_CoinsError C_BadNumber) (m_plus) 2) := by
  have G_reduced := ok_reduced (w := w) (base := base) X0
  have sc := s_plus
  exact
      def_of (T := tc K C_CoinsError C_BadNumber) (N := ["one", "other"]) (ps := ["one", "other"]) (k := 1) (m := b_plus) X0.F_plus sc fun cdv A outer s H E hr hgd =>
    (z_one (y_ret (r_call G_reduced (by exact hr.mono (by omega)) (by exact hgd) (by rfl) X0.g_reduced X0.k_reduced X0.b_reduced (by exact takes_of rfl rfl rfl rfl) (s_cons (r_bin op_addM g_add (r_bin op_mulM g_mul (r_ix (by rfl) (by have h := Mir.u1 hr; exact h) (r_var 0) r_int (by exact fun _ _ => rfl)) (r_ix (by rfl) (by have h := Mir.u1 hr; exact h) (r_var 1) r_int (by exact fun _ _ => rfl))) (r_bin op_mulM g_mul (r_ix (by rfl) (by have h := Mir.u1 hr; exact h) (r_var 1) r_int (by exact fun _ _ => rfl)) (r_ix (by rfl) (by have h := Mir.u1 hr; exact h) (r_var 0) r_int (by exact fun _ _ => rfl)))) (s_cons (r_bin op_mulM g_mul (r_ix (by rfl) (by have h := Mir.u1 hr; exact h) (r_var 0) r_int (by exact fun _ _ => rfl)) (r_ix (by rfl) (by have h := Mir.u1 hr; exact h) (r_var 1) r_int (by exact fun _ _ => rfl))) s_nil (by rfl)) (by rfl)) (by decide) (by rfl) (by rfl))))
theorem s_minus : FnScope ["one", "other"] ["one", "other"] (defScope (top 11)) := ⟨rfl, rfl, rfl, by decide +kernel, rfl, by decide +kernel, by decide +kernel⟩
theorem ok_minus (X0 : Txt P K mg f_is_whole f_is_row f_reduced f_is_fraction f_want_fraction f_plus f_minus f_times f_over f_is_less f_floor_of f_ceiling_of f_nearest f_total f_median f_law_taken f_law_alike f_law_truth f_law_low f_law fd_is_whole fd_is_row fd_reduced fd_is_fraction fd_want_fraction fd_plus fd_minus fd_times fd_over fd_is_less fd_floor_of fd_ceiling_of fd_nearest fd_total fd_median fd_law_taken fd_law_alike fd_law_truth fd_law_low fd_law C_CoinsError C_BadNumber fI_BadNumber cda_BadNumber cc_BadNumber) : FnG P w K mg base (2) f_minus fd_minus ["one", "other"] (spM (tc K C_CoinsError C_BadNumber) (m_minus) 2) := by
  have G_reduced := ok_reduced (w := w) (base := base) X0
  have sc := s_minus
  exact
      def_of (T := tc K C_CoinsError C_BadNumber) (N := ["one", "other"]) (ps := ["one", "other"]) (k := 1) (m := b_minus) X0.F_minus sc fun cdv A outer s H E hr hgd =>
    (z_one (y_ret (r_call G_reduced (by exact hr.mono (by omega)) (by exact hgd) (by rfl) X0.g_reduced X0.k_reduced X0.b_reduced (by exact takes_of rfl rfl rfl rfl) (s_cons (r_bin op_sub g_sub (r_bin op_mulM g_mul (r_ix (by rfl) (by have h := Mir.u1 hr; exact h) (r_var 0) r_int (by exact fun _ _ => rfl)) (r_ix (by rfl) (by have h := Mir.u1 hr; exact h) (r_var 1) r_int (by exact fun _ _ => rfl))) (r_bin op_mulM g_mul (r_ix (by rfl) (by have h := Mir.u1 hr; exact h) (r_var 1) r_int (by exact fun _ _ => rfl)) (r_ix (by rfl) (by have h := Mir.u1 hr; exact h) (r_var 0) r_int (by exact fun _ _ => rfl)))) (s_cons (r_bin op_mulM g_mul (r_ix (by rfl) (by have h := Mir.u1 hr; exact h) (r_var 0) r_int (by exact fun _ _ => rfl)) (r_ix (by rfl) (by have h := Mir.u1 hr; exact h) (r_var 1) r_int (by exact fun _ _ => rfl))) s_nil (by rfl)) (by rfl)) (by decide) (by rfl) (by rfl))))
theorem s_times : FnScope ["one", "other"] ["one", "other"] (defScope (top 12)) := ⟨rfl, rfl, rfl, by decide +kernel, rfl, by decide +kernel, by decide +kernel⟩
theorem ok_times (X0 : Txt P K mg f_is_whole f_is_row f_reduced f_is_fraction f_want_fraction f_plus f_minus f_times f_over f_is_less f_floor_of f_ceiling_of f_nearest f_total f_median f_law_taken f_law_alike f_law_truth f_law_low f_law fd_is_whole fd_is_row fd_reduced fd_is_fraction fd_want_fraction fd_plus fd_minus fd_times fd_over fd_is_less fd_floor_of fd_ceiling_of fd_nearest fd_total fd_median fd_law_taken fd_law_alike fd_law_truth fd_law_low fd_law C_CoinsError C_BadNumber fI_BadNumber cda_BadNumber cc_BadNumber) : FnG P w K mg base (2) f_times fd_times ["one", "other"] (spM (tc K C_CoinsError C_BadNumber) (m_times) 2) := by
  have G_reduced := ok_reduced (w := w) (base := base) X0
  have sc := s_times
  exact
      def_of (T := tc K C_CoinsError C_BadNumber) (N := ["one", "other"]) (ps := ["one", "other"]) (k := 1) (m := b_times) X0.F_times sc fun cdv A outer s H E hr hgd =>
    (z_one (y_ret (r_call G_reduced (by exact hr.mono (by omega)) (by exact hgd) (by rfl) X0.g_reduced X0.k_reduced X0.b_reduced (by exact takes_of rfl rfl rfl rfl) (s_cons (r_bin op_mulM g_mul (r_ix (by rfl) (by have h := Mir.u1 hr; exact h) (r_var 0) r_int (by exact fun _ _ => rfl)) (r_ix (by rfl) (by have h := Mir.u1 hr; exact h) (r_var 1) r_int (by exact fun _ _ => rfl))) (s_cons (r_bin op_mulM g_mul (r_ix (by rfl) (by have h := Mir.u1 hr; exact h) (r_var 0) r_int (by exact fun _ _ => rfl)) (r_ix (by rfl) (by have h := Mir.u1 hr; exact h) (r_var 1) r_int (by exact fun _ _ => rfl))) s_nil (by rfl)) (by rfl)) (by decide) (by rfl) (by rfl))))
theorem s_over : FnScope ["one", "other"] ["one", "other"] (defScope (top 13)) := ⟨rfl, rfl, rfl, by decide +kernel, rfl, by decide +kernel, by decide +kernel⟩
theorem ok_over (X0 : Txt P K mg f_is_whole f_is_row f_reduced f_is_fraction f_want_fraction f_plus f_minus f_times f_over f_is_less f_floor_of f_ceiling_of f_nearest f_total f_median f_law_taken f_law_alike f_law_truth f_law_low f_law fd_is_whole fd_is_row fd_reduced fd_is_fraction fd_want_fraction fd_plus fd_minus fd_times fd_over fd_is_less fd_floor_of fd_ceiling_of fd_nearest fd_total fd_median fd_law_taken fd_law_alike fd_law_truth fd_law_low fd_law C_CoinsError C_BadNumber fI_BadNumber cda_BadNumber cc_BadNumber) : FnG P w K mg base (2) f_over fd_over ["one", "other"] (spM (tc K C_CoinsError C_BadNumber) (m_over) 2) := by
  have G_reduced := ok_reduced (w := w) (base := base) X0
  have sc := s_over
  exact
      def_of (T := tc K C_CoinsError C_BadNumber) (N := ["one", "other"]) (ps := ["one", "other"]) (k := 1) (m := b_over) X0.F_over sc fun cdv A outer s H E hr hgd =>
    (z_one (y_ret (r_call G_reduced (by exact hr.mono (by omega)) (by exact hgd) (by rfl) X0.g_reduced X0.k_reduced X0.b_reduced (by exact takes_of rfl rfl rfl rfl) (s_cons (r_bin op_mulM g_mul (r_ix (by rfl) (by have h := Mir.u1 hr; exact h) (r_var 0) r_int (by exact fun _ _ => rfl)) (r_ix (by rfl) (by have h := Mir.u1 hr; exact h) (r_var 1) r_int (by exact fun _ _ => rfl))) (s_cons (r_bin op_mulM g_mul (r_ix (by rfl) (by have h := Mir.u1 hr; exact h) (r_var 0) r_int (by exact fun _ _ => rfl)) (r_ix (by rfl) (by have h := Mir.u1 hr; exact h) (r_var 1) r_int (by exact fun _ _ => rfl))) s_nil (by rfl)) (by rfl)) (by decide) (by rfl) (by rfl))))
theorem s_is_less : FnScope ["one", "other"] ["one", "other"] (defScope (top 14)) := ⟨rfl, rfl, rfl, by decide +kernel, rfl, by decide +kernel, by decide +kernel⟩
theorem ok_is_less (X0 : Txt P K mg f_is_whole f_is_row f_reduced f_is_fraction f_want_fraction f_plus f_minus f_times f_over f_is_less f_floor_of f_ceiling_of f_nearest f_total f_median f_law_taken f_law_alike f_law_truth f_law_low f_law fd_is_whole fd_is_row fd_reduced fd_is_fraction fd_want_fraction fd_plus fd_minus fd_times fd_over fd_is_less fd_floor_of fd_ceiling_of fd_nearest fd_total fd_median fd_law_taken fd_law_alike fd_law_truth fd_law_low fd_law C_CoinsError C_BadNumber fI_BadNumber cda_BadNumber cc_BadNumber) : FnG P w K mg base (1) f_is_less fd_is_less ["one", "other"] (spM (tc K C_CoinsError C_BadNumber) (m_is_less) 2) := by
  have sc := s_is_less
  exact
      def_of (T := tc K C_CoinsError C_BadNumber) (N := ["one", "other"]) (ps := ["one", "other"]) (k := 0) (m := b_is_less) X0.F_is_less sc fun cdv A outer s H E hr hgd =>
    (z_one (y_ret (r_cmp op_lt g_lt (r_bin op_mulM g_mul (r_ix (by rfl) (by have h := Mir.u1 hr; exact h) (r_var 0) r_int (by exact fun _ _ => rfl)) (r_ix (by rfl) (by have h := Mir.u1 hr; exact h) (r_var 1) r_int (by exact fun _ _ => rfl))) (r_bin op_mulM g_mul (r_ix (by rfl) (by have h := Mir.u1 hr; exact h) (r_var 1) r_int (by exact fun _ _ => rfl)) (r_ix (by rfl) (by have h := Mir.u1 hr; exact h) (r_var 0) r_int (by exact fun _ _ => rfl))) (by first | exact nomark _ | with_unfolding_all rfl))))
theorem s_floor_of : FnScope ["one"] ["one"] (defScope (top 15)) := ⟨rfl, rfl, rfl, by decide +kernel, rfl, by decide +kernel, by decide +kernel⟩
theorem ok_floor_of (X0 : Txt P K mg f_is_whole f_is_row f_reduced f_is_fraction f_want_fraction f_plus f_minus f_times f_over f_is_less f_floor_of f_ceiling_of f_nearest f_total f_median f_law_taken f_law_alike f_law_truth f_law_low f_law fd_is_whole fd_is_row fd_reduced fd_is_fraction fd_want_fraction fd_plus fd_minus fd_times fd_over fd_is_less fd_floor_of fd_ceiling_of fd_nearest fd_total fd_median fd_law_taken fd_law_alike fd_law_truth fd_law_low fd_law C_CoinsError C_BadNumber fI_BadNumber cda_BadNumber cc_BadNumber) : FnG P w K mg base (1) f_floor_of fd_floor_of ["one"] (spM (tc K C_CoinsError C_BadNumber) (m_floor_of) 1) := by
  have sc := s_floor_of
  exact
      def_of (T := tc K C_CoinsError C_BadNumber) (N := ["one"]) (ps := ["one"]) (k := 0) (m := b_floor_of) X0.F_floor_of sc fun cdv A outer s H E hr hgd =>
    (z_one (y_ret (r_bin op_fdiv g_fdiv (r_ix (by rfl) (by have h := Mir.u1 hr; exact h) (r_var 0) r_int (by exact fun _ _ => rfl)) (r_ix (by rfl) (by have h := Mir.u1 hr; exact h) (r_var 0) r_int (by exact fun _ _ => rfl)))))
theorem s_ceiling_of : FnScope ["one"] ["one"] (defScope (top 16)) := ⟨rfl, rfl, rfl, by decide +kernel, rfl, by decide +kernel, by decide +kernel⟩
theorem ok_ceiling_of (X0 : Txt P K mg f_is_whole f_is_row f_reduced f_is_fraction f_want_fraction f_plus f_minus f_times f_over f_is_less f_floor_of f_ceiling_of f_nearest f_total f_median f_law_taken f_law_alike f_law_truth f_law_low f_law fd_is_whole fd_is_row fd_reduced fd_is_fraction fd_want_fraction fd_plus fd_minus fd_times fd_over fd_is_less fd_floor_of fd_ceiling_of fd_nearest fd_total fd_median fd_law_taken fd_law_alike fd_law_truth fd_law_low fd_law C_CoinsError C_BadNumber fI_BadNumber cda_BadNumber cc_BadNumber) : FnG P w K mg base (1) f_ceiling_of fd_ceiling_of ["one"] (spM (tc K C_CoinsError C_BadNumber) (m_ceiling_of) 1) := by
  have sc := s_ceiling_of
  exact
      def_of (T := tc K C_CoinsError C_BadNumber) (N := ["one"]) (ps := ["one"]) (k := 0) (m := b_ceiling_of) X0.F_ceiling_of sc fun cdv A outer s H E hr hgd =>
    (z_one (y_ret (r_un un_neg g_neg (r_bin op_fdiv g_fdiv (r_un un_neg g_neg (r_ix (by rfl) (by have h := Mir.u1 hr; exact h) (r_var 0) r_int (by exact fun _ _ => rfl))) (r_ix (by rfl) (by have h := Mir.u1 hr; exact h) (r_var 0) r_int (by exact fun _ _ => rfl))))))
theorem s_nearest : FnScope ["one"] ["one"] (defScope (top 17)) := ⟨rfl, rfl, rfl, by decide +kernel, rfl, by decide +kernel, by decide +kernel⟩
theorem ok_nearest (X0 : Txt P K mg f_is_whole f_is_row f_reduced f_is_fraction f_want_fraction f_plus f_minus f_times f_over f_is_less f_floor_of f_ceiling_of f_nearest f_total f_median f_law_taken f_law_alike f_law_truth f_law_low f_law fd_is_whole fd_is_row fd_reduced fd_is_fraction fd_want_fraction fd_plus fd_minus fd_times fd_over fd_is_less fd_floor_of fd_ceiling_of fd_nearest fd_total fd_median fd_law_taken fd_law_alike fd_law_truth fd_law_low fd_law C_CoinsError C_BadNumber fI_BadNumber cda_BadNumber cc_BadNumber) : FnG P w K mg base (1) f_nearest fd_nearest ["one"] (spM (tc K C_CoinsError C_BadNumber) (m_nearest) 1) := by
  have sc := s_nearest
  exact
      def_of (T := tc K C_CoinsError C_BadNumber) (N := ["one"]) (ps := ["one"]) (k := 0) (m := b_nearest) X0.F_nearest sc fun cdv A outer s H E hr hgd =>
    (z_one (y_ret (r_bin op_fdiv g_fdiv (r_bin op_addM g_add (r_bin op_mulM g_mul r_int (r_ix (by rfl) (by have h := Mir.u1 hr; exact h) (r_var 0) r_int (by exact fun _ _ => rfl))) (r_ix (by rfl) (by have h := Mir.u1 hr; exact h) (r_var 0) r_int (by exact fun _ _ => rfl))) (r_bin op_mulM g_mul r_int (r_ix (by rfl) (by have h := Mir.u1 hr; exact h) (r_var 0) r_int (by exact fun _ _ => rfl))))))
theorem s_total : FnScope ["rows", "found", "one"] ["rows"] (defScope (top 18)) := ⟨rfl, rfl, rfl, by decide +kernel, rfl, by decide +kernel, by decide +kernel⟩
theorem ok_total (X0 : Txt P K mg f_is_whole f_is_row f_reduced f_is_fraction f_want_fraction f_plus f_minus f_times f_over f_is_less f_floor_of f_ceiling_of f_nearest f_total f_median f_law_taken f_law_alike f_law_truth f_law_low f_law fd_is_whole fd_is_row fd_reduced fd_is_fraction fd_want_fraction fd_plus fd_minus fd_times fd_over fd_is_less fd_floor_of fd_ceiling_of fd_nearest fd_total fd_median fd_law_taken fd_law_alike fd_law_truth fd_law_low fd_law C_CoinsError C_BadNumber fI_BadNumber cda_BadNumber cc_BadNumber) : FnG P w K mg base (3) f_total fd_total ["rows"] (spM (tc K C_CoinsError C_BadNumber) (m_total) 1) := by
  have G_plus := ok_plus (w := w) (base := base) X0
  have sc := s_total
  exact
      def_of (T := tc K C_CoinsError C_BadNumber) (N := ["rows", "found", "one"]) (ps := ["rows"]) (k := 2) (m := b_total) X0.F_total sc fun cdv A outer s H E hr hgd =>
    (z_cons (y_set (i := 1) sc.nd (by rfl) (by first | exact Or.inl rfl | exact Or.inr rfl) (r_tup (s_cons r_int (s_cons r_int s_nil (by rfl)) (by rfl))) (by rfl) (by first | exact .inl rfl | exact .inr rfl))
    (z_cons (y_for (by exact passes_of rfl) (by rfl) (i_seq (by rfl) (r_var 0)) (t_name (i := 2) sc.nd (by rfl) (by first | exact Or.inl rfl | exact Or.inr rfl) (by first | exact .inl rfl | exact .inr rfl)) (z_one (y_set (i := 1) sc.nd (by rfl) (by first | exact Or.inl rfl | exact Or.inr rfl) (r_call G_plus (by exact hr.mono (by omega)) (by exact hgd) (by rfl) X0.g_plus X0.k_plus X0.b_plus (by exact takes_of rfl rfl rfl rfl) (s_cons (r_var 1) (s_cons (r_var 2) s_nil (by rfl)) (by rfl)) (by decide) (by rfl) (by rfl)) (by rfl) (by first | exact .inl rfl | exact .inr rfl))) (by intro _; rfl))
    (z_one (y_ret (r_var 1)))))
theorem s_median : FnScope ["rows", "row", "one", "place", "first", "second", "other"] ["rows"] (defScope (top 19)) := ⟨rfl, rfl, rfl, by decide +kernel, rfl, by decide +kernel, by decide +kernel⟩
theorem ok_median (X0 : Txt P K mg f_is_whole f_is_row f_reduced f_is_fraction f_want_fraction f_plus f_minus f_times f_over f_is_less f_floor_of f_ceiling_of f_nearest f_total f_median f_law_taken f_law_alike f_law_truth f_law_low f_law fd_is_whole fd_is_row fd_reduced fd_is_fraction fd_want_fraction fd_plus fd_minus fd_times fd_over fd_is_less fd_floor_of fd_ceiling_of fd_nearest fd_total fd_median fd_law_taken fd_law_alike fd_law_truth fd_law_low fd_law C_CoinsError C_BadNumber fI_BadNumber cda_BadNumber cc_BadNumber) : FnG P w K mg base (3) f_median fd_median ["rows"] (spM (tc K C_CoinsError C_BadNumber) (m_median) 1) := by
  have G_times := ok_times (w := w) (base := base) X0
  have G_plus := ok_plus (w := w) (base := base) X0
  have G_is_less := ok_is_less (w := w) (base := base) X0
  have sc := s_median
  exact
      def_of (T := tc K C_CoinsError C_BadNumber) (N := ["rows", "row", "one", "place", "first", "second", "other"]) (ps := ["rows"]) (k := 2) (m := b_median) X0.F_median sc fun cdv A outer s H E hr hgd =>
    (z_cons (y_own (i := 1) sc.nd (by rfl) (by first | exact Or.inl rfl | exact Or.inr rfl) (f_lst (s_cons (r_ix (by rfl) (by have h := Mir.u1 hr; exact h) (r_var 0) r_int (by exact fun _ _ => rfl)) s_nil (by rfl))) (by rfl) (by first | exact .inl rfl | exact .inr rfl))
    (z_cons (y_for (by exact passes_of rfl) (by rfl) (i_seq (by rfl) (r_sl (by rfl) (r_var 0) (o_some r_int) o_no)) (t_name (i := 2) sc.nd (by rfl) (by first | exact Or.inl rfl | exact Or.inr rfl) (by first | exact .inl rfl | exact .inr rfl)) (z_cons (y_set (i := 3) sc.nd (by rfl) (by first | exact Or.inl rfl | exact Or.inr rfl) (r_bor (is := [1]) (r_callB call_lenM g_len (by rfl) X0.n_len (by first | boot_by_name | rfl | kernel_rfl) (s_cons (r_fr (f_lc (own := [("other", 6)]) (by rfl) sc.nd (i_seq (by rfl) (r_var 1)) (blkOk_by (by first | rfl | kernel_rfl)) (fun _ _ _ _ _ => (tw_name (i := 6) (by decide) sc.nd (by rfl) (by first | exact Or.inl rfl | exact Or.inr rfl) (by first | exact .inl rfl | exact .inr rfl))) (fun _ _ _ _ _ => (w_one (q_not (q_val (r_call G_is_less (by exact hr.mono (by omega)) (by exact hgd) (by rfl) X0.g_is_less X0.k_is_less X0.b_is_less takes0 (s_cons (r_var 2) (s_cons (r_var 6) s_nil (by rfl)) (by rfl)) (by decide) (by rfl) (by rfl)) (by intro _; rfl))))) (fun _ _ _ _ _ => (r_var 6)) (by intro _; rfl))) s_nil (by rfl)) (by decide) (by decide) (by rfl) (by rfl))) (by rfl) (by first | exact .inl rfl | exact .inr rfl))
    (z_one (y_expr (r_mu (by rfl) PySem.F.slot_list_insert PySem.F.type_list_insert mt_insert m_ins (rf_name 1) (s_cons (r_var 3) (s_cons (r_var 2) s_nil (by rfl)) (by rfl)) (by rfl) (by rfl) (by rfl) (by rfl) (by rfl)) (by rfl)))) (by intro _; rfl))
    (z_cons (y_par2 (i := 4) (j := 5) (by rfl) sc.nd (by rfl) (by rfl) (by decide) (by rfl) (by rfl) (s_cons (r_ix (by rfl) (by have h := Mir.u1 hr; exact h) (r_var 1) (r_bin op_fdiv g_fdiv (r_bin op_sub g_sub (r_callB call_lenM g_len (by rfl) X0.n_len (by first | boot_by_name | rfl | kernel_rfl) (s_cons (r_var 1) s_nil (by rfl)) (by decide) (by decide) (by rfl) (by rfl)) r_int) r_int) (by exact fun _ _ => rfl)) (s_cons (r_ix (by rfl) (by have h := Mir.u1 hr; exact h) (r_var 1) (r_bin op_fdiv g_fdiv (r_callB call_lenM g_len (by rfl) X0.n_len (by first | boot_by_name | rfl | kernel_rfl) (s_cons (r_var 1) s_nil (by rfl)) (by decide) (by decide) (by rfl) (by rfl)) r_int) (by exact fun _ _ => rfl)) s_nil (by rfl)) (by rfl)) (by first | rfl | kernel_rfl) (by rfl))
    (z_one (y_ret (r_call G_times (by exact hr.mono (by omega)) (by exact hgd) (by rfl) X0.g_times X0.k_times X0.b_times (by exact takes_of rfl rfl rfl rfl) (s_cons (r_call G_plus (by exact hr.mono (by omega)) (by exact hgd) (by rfl) X0.g_plus X0.k_plus X0.b_plus (by exact takes_of rfl rfl rfl rfl) (s_cons (r_var 4) (s_cons (r_var 5) s_nil (by rfl)) (by rfl)) (by decide) (by rfl) (by rfl)) (s_cons (r_tup (s_cons r_int (s_cons r_int s_nil (by rfl)) (by rfl))) s_nil (by rfl)) (by rfl)) (by decide) (by rfl) (by rfl)))))))
theorem s_law_taken : FnScope ["row", "many", "found", "cell"] ["row", "many"] (defScope (top 21)) := ⟨rfl, rfl, rfl, by decide +kernel, rfl, by decide +kernel, by decide +kernel⟩
theorem ok_law_taken (X0 : Txt P K mg f_is_whole f_is_row f_reduced f_is_fraction f_want_fraction f_plus f_minus f_times f_over f_is_less f_floor_of f_ceiling_of f_nearest f_total f_median f_law_taken f_law_alike f_law_truth f_law_low f_law fd_is_whole fd_is_row fd_reduced fd_is_fraction fd_want_fraction fd_plus fd_minus fd_times fd_over fd_is_less fd_floor_of fd_ceiling_of fd_nearest fd_total fd_median fd_law_taken fd_law_alike fd_law_truth fd_law_low fd_law C_CoinsError C_BadNumber fI_BadNumber cda_BadNumber cc_BadNumber) : FnG P w K mg base (1) f_law_taken fd_law_taken ["row", "many"] (spM (tc K C_CoinsError C_BadNumber) (m_law_taken) 2) := by
  have sc := s_law_taken
  exact
      def_of (T := tc K C_CoinsError C_BadNumber) (N := ["row", "many", "found", "cell"]) (ps := ["row", "many"]) (k := 0) (m := b_law_taken) X0.F_law_taken sc fun cdv A outer s H E hr hgd =>
    (z_cons (y_if (q_cmp op_gt g_gt (r_ixR (by rfl) (by have h := Mir.u1 hr; exact h) (rf_name 0) r_int (by exact fun _ _ => rfl)) r_int (by first | exact nomark _ | with_unfolding_all rfl)) (z_cons (y_set (i := 2) sc.nd (by rfl) (by first | exact Or.inl rfl | exact Or.inr rfl) (r_bin op_mod g_mod (r_callTy call_int1 g_int (by rfl) X0.n_int (by first | boot_by_name | rfl | kernel_rfl) (s_cons (r_ixR (by rfl) (by have h := Mir.u1 hr; exact h) (rf_name 0) r_int (by exact fun _ _ => rfl)) s_nil (by rfl)) (by decide) (by decide) (by rfl) (by rfl)) (r_var 1)) (by rfl) (by first | exact .inl rfl | exact .inr rfl))
    (z_cons (y_ix (by have h := Mir.u1 hr; exact h) (rf_name 0) r_int (r_bin op_fdiv g_fdiv (r_ixR (by rfl) (by have h := Mir.u1 hr; exact h) (rf_name 0) r_int (by exact fun _ _ => rfl)) (r_var 1)) (by intro _; rfl) (by rfl) (by rfl) (by rfl))
    (z_one (y_ret (r_var 2))))) z_nil)
    (z_cons (y_ix (by have h := Mir.u1 hr; exact h) (rf_name 0) r_int (r_bin op_addM g_add (r_ixR (by rfl) (by have h := Mir.u1 hr; exact h) (rf_name 0) r_int (by exact fun _ _ => rfl)) r_int) (by intro _; rfl) (by rfl) (by rfl) (by rfl))
    (z_cons (y_if (q_cmp op_gt g_gt (r_ixR (by rfl) (by have h := Mir.u1 hr; exact h) (rf_name 0) r_int (by exact fun _ _ => rfl)) (r_callB call_lenM g_len (by rfl) X0.n_len (by first | boot_by_name | rfl | kernel_rfl) (s_cons (r_ixR (by rfl) (by have h := Mir.u1 hr; exact h) (rf_name 0) r_int (by exact fun _ _ => rfl)) s_nil (by rfl)) (by decide) (by decide) (by rfl) (by rfl)) (by first | exact nomark _ | with_unfolding_all rfl)) (z_cons (y_ix (by have h := Mir.u1 hr; exact h) (rf_name 0) r_int (r_bin op_mod g_mod (r_callTy call_int1 g_int (by rfl) X0.n_int (by first | boot_by_name | rfl | kernel_rfl) (s_cons (r_bin op_addM g_add (r_bin op_mulM g_mul (r_ixR (by rfl) (by have h := Mir.u1 hr; exact h) (rf_name 0) r_int (by exact fun _ _ => rfl)) r_int) r_int) s_nil (by rfl)) (by decide) (by decide) (by rfl) (by rfl)) r_int) (by intro _; rfl) (by rfl) (by rfl) (by rfl))
    (z_one (y_ret (r_bin op_mod g_mod (r_callTy call_int1 g_int (by rfl) X0.n_int (by first | boot_by_name | rfl | kernel_rfl) (s_cons (r_bin op_fdiv g_fdiv (r_ixR (by rfl) (by have h := Mir.u1 hr; exact h) (rf_name 0) r_int (by exact fun _ _ => rfl)) r_int) s_nil (by rfl)) (by decide) (by decide) (by rfl) (by rfl)) (r_var 1))))) z_nil)
    (z_cons (y_set (i := 3) sc.nd (by rfl) (by first | exact Or.inl rfl | exact Or.inr rfl) (r_ix (by rfl) (by have h := Mir.u1 hr; exact h) (r_ixR (by rfl) (by have h := Mir.u1 hr; exact h) (rf_name 0) r_int (by exact fun _ _ => rfl)) (r_bin op_sub g_sub (r_ixR (by rfl) (by have h := Mir.u1 hr; exact h) (rf_name 0) r_int (by exact fun _ _ => rfl)) r_int) (by exact fun _ _ => rfl)) (by rfl) (by first | exact .inl rfl | exact .inr rfl))
    (z_cons (y_ix (by have h := Mir.u1 hr; exact h) (rf_name 0) r_int (r_bin op_mod g_mod (r_callTy call_int1 g_int (by rfl) X0.n_int (by first | boot_by_name | rfl | kernel_rfl) (s_cons (r_bin op_addM g_add (r_bin op_addM g_add (r_bin op_mulM g_mul (r_ixR (by rfl) (by have h := Mir.u1 hr; exact h) (rf_name 0) r_int (by exact fun _ _ => rfl)) r_int) (r_var 3)) r_int) s_nil (by rfl)) (by decide) (by decide) (by rfl) (by rfl)) r_int) (by intro _; rfl) (by rfl) (by rfl) (by rfl))
    (z_cons (y_if (q_cmp op_ge g_ge (r_var 3) (r_bin op_pow g_pow r_int r_int) (by first | exact nomark _ | with_unfolding_all rfl)) (z_one (y_ix (by have h := Mir.u1 hr; exact h) (rf_name 0) r_int (r_bin op_fdiv g_fdiv (r_var 3) (r_var 1)) (by intro _; rfl) (by rfl) (by rfl) (by rfl))) z_nil)
    (z_one (y_ret (r_bin op_mod g_mod (r_callTy call_int1 g_int (by rfl) X0.n_int (by first | boot_by_name | rfl | kernel_rfl) (s_cons (r_var 3) s_nil (by rfl)) (by decide) (by decide) (by rfl) (by rfl)) (r_var 1))))))))))
theorem s_law_alike : FnScope ["found", "due", "k"] ["found", "due"] (defScope (top 22)) := ⟨rfl, rfl, rfl, by decide +kernel, rfl, by decide +kernel, by decide +kernel⟩
theorem ok_law_alike (X0 : Txt P K mg f_is_whole f_is_row f_reduced f_is_fraction f_want_fraction f_plus f_minus f_times f_over f_is_less f_floor_of f_ceiling_of f_nearest f_total f_median f_law_taken f_law_alike f_law_truth f_law_low f_law fd_is_whole fd_is_row fd_reduced fd_is_fraction fd_want_fraction fd_plus fd_minus fd_times fd_over fd_is_less fd_floor_of fd_ceiling_of fd_nearest fd_total fd_median fd_law_taken fd_law_alike fd_law_truth fd_law_low fd_law C_CoinsError C_BadNumber fI_BadNumber cda_BadNumber cc_BadNumber) : ∀ n : Nat, FnG P w K mg base (1 + n) f_law_alike fd_law_alike ["found", "due"] (spM (tc K C_CoinsError C_BadNumber) (m_law_alike n) 2)
  | 0 => FnG.none rfl
  | n + 1 => by
    have G0 := ok_law_alike X0 n
    have sc := s_law_alike
    exact
      def_of (T := tc K C_CoinsError C_BadNumber) (N := ["found", "due", "k"]) (ps := ["found", "due"]) (k := 1 + n) (m := b_law_alike (m_law_alike n)) X0.F_law_alike sc fun cdv A outer s H E hr hgd =>
    (z_cons (y_if (q_val (r_isi2 (by rfl) (by rfl) X0.n_isinstance (by rfl) X0.n_tuple (by first | boot_by_name | rfl | kernel_rfl) (by rfl) X0.n_list (by first | boot_by_name | rfl | kernel_rfl) (r_var 1) (by decide) (by decide) (by decide) (by decide) (by rfl) (by rfl) (by rfl) (by rfl) (by rfl)) (by intro _; rfl)) (z_cons (y_if (PW.pt (q_or (q_not (q_val (r_isi2 (by rfl) (by rfl) X0.n_isinstance (by rfl) X0.n_tuple (by first | boot_by_name | rfl | kernel_rfl) (by rfl) X0.n_list (by first | boot_by_name | rfl | kernel_rfl) (r_var 0) (by decide) (by decide) (by decide) (by decide) (by rfl) (by rfl) (by rfl) (by rfl) (by rfl)) (by intro _; rfl))) (q_or1 (q_cmp (op_neD (by have h := Mir.u64 hr; exact h)) g_ne (r_isi (by rfl) (by rfl) X0.n_isinstance (by rfl) X0.n_list (by first | boot_by_name | rfl | kernel_rfl) (r_var 0) (by decide) (by decide) (by rfl) (by rfl) (by rfl)) (r_isi (by rfl) (by rfl) X0.n_isinstance (by rfl) X0.n_list (by first | boot_by_name | rfl | kernel_rfl) (r_var 1) (by decide) (by decide) (by rfl) (by rfl) (by rfl)) (by first | exact nomark _ | with_unfolding_all rfl))))) (z_one (y_ret r_bl)) z_nil)
    (z_cons (y_if (q_cmp (op_neD (by have h := Mir.u64 hr; exact h)) g_ne (r_callB call_lenM g_len (by rfl) X0.n_len (by first | boot_by_name | rfl | kernel_rfl) (s_cons (r_var 0) s_nil (by rfl)) (by decide) (by decide) (by rfl) (by rfl)) (r_callB call_lenM g_len (by rfl) X0.n_len (by first | boot_by_name | rfl | kernel_rfl) (s_cons (r_var 1) s_nil (by rfl)) (by decide) (by decide) (by rfl) (by rfl)) (by first | exact nomark _ | with_unfolding_all rfl)) (z_one (y_ret r_bl)) z_nil)
    (z_one (y_ret (r_cmp (op_eqD (by have h := Mir.u64 hr; exact h)) g_eq (r_fr (f_lc (own := [("k", 2)]) (by rfl) sc.nd (i_range1 (by rfl) X0.n_range (s_cons (r_callB call_lenM g_len (by rfl) X0.n_len (by first | boot_by_name | rfl | kernel_rfl) (s_cons (r_var 1) s_nil (by rfl)) (by decide) (by decide) (by rfl) (by rfl)) s_nil (by rfl)) (by rfl)) (blkOk_by (by first | rfl | kernel_rfl)) (fun _ _ _ _ _ => (tw_name (i := 2) (by decide) sc.nd (by rfl) (by first | exact Or.inl rfl | exact Or.inr rfl) (by first | exact .inl rfl | exact .inr rfl))) (fun _ _ _ _ _ => (w_one (q_not (q_val (r_call G0 (by exact hr.mono (by omega)) (by exact hgd) (by rfl) X0.g_law_alike X0.k_law_alike X0.b_law_alike takes0 (s_cons (r_ix (by rfl) (by have h := Mir.u1 hr; exact h) (r_var 0) (r_var 2) (by exact fun _ _ => rfl)) (s_cons (r_ix (by rfl) (by have h := Mir.u1 hr; exact h) (r_var 1) (r_var 2) (by exact fun _ _ => rfl)) s_nil (by rfl)) (by rfl)) (by decide) (by rfl) (by rfl)) (by intro _; rfl))))) (fun _ _ _ _ _ => (r_var 2)) (by intro _; rfl))) (r_lst s_nil) (by first | exact nomark _ | with_unfolding_all rfl)))))) z_nil)
    (z_cons (y_if (PW.pt (q_or (q_cmp op_isN g_isN (r_var 1) r_non (by first | exact nomark _ | with_unfolding_all rfl)) (q_or1 (q_val (r_isi (by rfl) (by rfl) X0.n_isinstance (by rfl) X0.n_str (by first | boot_by_name | rfl | kernel_rfl) (r_var 1) (by decide) (by decide) (by rfl) (by rfl) (by rfl)) (by intro _; rfl))))) (z_one (y_ret (r_and (r_cmp (op_eqD (by have h := Mir.u64 hr; exact h)) g_eq (r_var 0) (r_var 1) (by first | exact nomark _ | with_unfolding_all rfl)) (r_and1 (r_cmp (op_eqD (by have h := Mir.u64 hr; exact h)) g_eq (r_isi (by rfl) (by rfl) X0.n_isinstance (by rfl) X0.n_str (by first | boot_by_name | rfl | kernel_rfl) (r_var 0) (by decide) (by decide) (by rfl) (by rfl) (by rfl)) (r_isi (by rfl) (by rfl) X0.n_isinstance (by rfl) X0.n_str (by first | boot_by_name | rfl | kernel_rfl) (r_var 1) (by decide) (by decide) (by rfl) (by rfl) (by rfl)) (by first | exact nomark _ | with_unfolding_all rfl)))))) z_nil)
    (z_one (y_ret (r_and (r_isi (by rfl) (by rfl) X0.n_isinstance (by rfl) X0.n_int (by first | boot_by_name | rfl | kernel_rfl) (r_var 0) (by decide) (by decide) (by rfl) (by rfl) (by rfl)) (r_and (r_cmp (op_eqD (by have h := Mir.u64 hr; exact h)) g_eq (r_isi (by rfl) (by rfl) X0.n_isinstance (by rfl) X0.n_bool (by first | boot_by_name | rfl | kernel_rfl) (r_var 0) (by decide) (by decide) (by rfl) (by rfl) (by rfl)) (r_isi (by rfl) (by rfl) X0.n_isinstance (by rfl) X0.n_bool (by first | boot_by_name | rfl | kernel_rfl) (r_var 1) (by decide) (by decide) (by rfl) (by rfl) (by rfl)) (by first | exact nomark _ | with_unfolding_all rfl)) (r_and1 (r_cmp (op_eqD (by have h := Mir.u64 hr; exact h)) g_eq (r_var 0) (r_var 1) (by first | exact nomark _ | with_unfolding_all rfl)))))))))
theorem s_law_truth : FnScope ["found", "due"] ["found", "due"] (defScope (top 23)) := ⟨rfl, rfl, rfl, by decide +kernel, rfl, by decide +kernel, by decide +kernel⟩
theorem ok_law_truth (X0 : Txt P K mg f_is_whole f_is_row f_reduced f_is_fraction f_want_fraction f_plus f_minus f_times f_over f_is_less f_floor_of f_ceiling_of f_nearest f_total f_median f_law_taken f_law_alike f_law_truth f_law_low f_law fd_is_whole fd_is_row fd_reduced fd_is_fraction fd_want_fraction fd_plus fd_minus fd_times fd_over fd_is_less fd_floor_of fd_ceiling_of fd_nearest fd_total fd_median fd_law_taken fd_law_alike fd_law_truth fd_law_low fd_law C_CoinsError C_BadNumber fI_BadNumber cda_BadNumber cc_BadNumber) : FnG P w K mg base (1) f_law_truth fd_law_truth ["found", "due"] (spM (tc K C_CoinsError C_BadNumber) (m_law_truth) 2) := by
  have sc := s_law_truth
  exact
      def_of (T := tc K C_CoinsError C_BadNumber) (N := ["found", "due"]) (ps := ["found", "due"]) (k := 0) (m := b_law_truth) X0.F_law_truth sc fun cdv A outer s H E hr hgd =>
    (z_one (y_ret (r_and (r_isi (by rfl) (by rfl) X0.n_isinstance (by rfl) X0.n_bool (by first | boot_by_name | rfl | kernel_rfl) (r_var 0) (by decide) (by decide) (by rfl) (by rfl) (by rfl)) (r_and1 (r_cmp (op_eqD (by have h := Mir.u64 hr; exact h)) g_eq (r_var 0) (r_var 1) (by first | exact nomark _ | with_unfolding_all rfl))))))
theorem s_law_low : FnScope ["top", "bottom", "here", "one"] ["top", "bottom"] (defScope (top 24)) := ⟨rfl, rfl, rfl, by decide +kernel, rfl, by decide +kernel, by decide +kernel⟩
theorem ok_law_low (X0 : Txt P K mg f_is_whole f_is_row f_reduced f_is_fraction f_want_fraction f_plus f_minus f_times f_over f_is_less f_floor_of f_ceiling_of f_nearest f_total f_median f_law_taken f_law_alike f_law_truth f_law_low f_law fd_is_whole fd_is_row fd_reduced fd_is_fraction fd_want_fraction fd_plus fd_minus fd_times fd_over fd_is_less fd_floor_of fd_ceiling_of fd_nearest fd_total fd_median fd_law_taken fd_law_alike fd_law_truth fd_law_low fd_law C_CoinsError C_BadNumber fI_BadNumber cda_BadNumber cc_BadNumber) : FnG P w K mg base (1) f_law_low fd_law_low ["top", "bottom"] (spM (tc K C_CoinsError C_BadNumber) (m_law_low) 2) := by
  have sc := s_law_low
  exact
      def_of (T := tc K C_CoinsError C_BadNumber) (N := ["top", "bottom", "here", "one"]) (ps := ["top", "bottom"]) (k := 0) (m := b_law_low) X0.F_law_low sc fun cdv A outer s H E hr hgd =>
    (z_cons (y_set (i := 2) sc.nd (by rfl) (by first | exact Or.inl rfl | exact Or.inr rfl) r_int (by rfl) (by first | exact .inl rfl | exact .inr rfl))
    (z_cons (y_for (by exact passes_of rfl) (by rfl) (i_range2 (by rfl) X0.n_range (s_cons r_int (s_cons (r_bin op_addM g_add (r_callTy call_int1 g_int (by rfl) X0.n_int (by first | boot_by_name | rfl | kernel_rfl) (s_cons (r_var 1) s_nil (by rfl)) (by decide) (by decide) (by rfl) (by rfl)) r_int) s_nil (by rfl)) (by rfl)) (by rfl) (by rfl)) (t_name (i := 3) sc.nd (by rfl) (by first | exact Or.inl rfl | exact Or.inr rfl) (by first | exact .inl rfl | exact .inr rfl)) (z_one (y_if (PW.pt (q_and (q_cmp (op_eqD (by have h := Mir.u64 hr; exact h)) g_eq (r_bin op_mod g_mod (r_callTy call_int1 g_int (by rfl) X0.n_int (by first | boot_by_name | rfl | kernel_rfl) (s_cons (r_var 0) s_nil (by rfl)) (by decide) (by decide) (by rfl) (by rfl)) (r_var 3)) r_int (by first | exact nomark _ | with_unfolding_all rfl)) (q_and1 (q_cmp (op_eqD (by have h := Mir.u64 hr; exact h)) g_eq (r_bin op_mod g_mod (r_callTy call_int1 g_int (by rfl) X0.n_int (by first | boot_by_name | rfl | kernel_rfl) (s_cons (r_var 1) s_nil (by rfl)) (by decide) (by decide) (by rfl) (by rfl)) (r_var 3)) r_int (by first | exact nomark _ | with_unfolding_all rfl))))) (z_one (y_set (i := 2) sc.nd (by rfl) (by first | exact Or.inl rfl | exact Or.inr rfl) (r_var 3) (by rfl) (by first | exact .inl rfl | exact .inr rfl))) z_nil)) (by intro _; rfl))
    (z_one (y_ret (r_tup (s_cons (r_bin op_fdiv g_fdiv (r_callTy call_int1 g_int (by rfl) X0.n_int (by first | boot_by_name | rfl | kernel_rfl) (s_cons (r_var 0) s_nil (by rfl)) (by decide) (by decide) (by rfl) (by rfl)) (r_var 2)) (s_cons (r_bin op_fdiv g_fdiv (r_callTy call_int1 g_int (by rfl) X0.n_int (by first | boot_by_name | rfl | kernel_rfl) (s_cons (r_var 1) s_nil (by rfl)) (by decide) (by decide) (by rfl) (by rfl)) (r_var 2)) s_nil (by rfl)) (by rfl)))))))
theorem s_law : FnScope ["script", "row", "a", "b", "c", "d", "one", "other", "wholes", "below", "above", "best", "rows", "whole", "part", "middle", "value", "e", "k"] ["script"] (defScope (top 25)) := ⟨rfl, rfl, rfl, by decide +kernel, rfl, by decide +kernel, by decide +kernel⟩
theorem ok_law (X0 : Txt P K mg f_is_whole f_is_row f_reduced f_is_fraction f_want_fraction f_plus f_minus f_times f_over f_is_less f_floor_of f_ceiling_of f_nearest f_total f_median f_law_taken f_law_alike f_law_truth f_law_low f_law fd_is_whole fd_is_row fd_reduced fd_is_fraction fd_want_fraction fd_plus fd_minus fd_times fd_over fd_is_less fd_floor_of fd_ceiling_of fd_nearest fd_total fd_median fd_law_taken fd_law_alike fd_law_truth fd_law_low fd_law C_CoinsError C_BadNumber fI_BadNumber cda_BadNumber cc_BadNumber) : FnG P w K mg base (32) f_law fd_law ["script"] (spM (tc K C_CoinsError C_BadNumber) (m_law) 1) := by
  have G_median := ok_median (w := w) (base := base) X0
  have G_law_alike := ok_law_alike (w := w) (base := base) X0 30
  have G_reduced := ok_reduced (w := w) (base := base) X0
  have G_is_fraction := ok_is_fraction (w := w) (base := base) X0
  have G_law_low := ok_law_low (w := w) (base := base) X0
  have G_want_fraction := ok_want_fraction (w := w) (base := base) X0
  have G_law_taken := ok_law_taken (w := w) (base := base) X0
  have G_law_truth := ok_law_truth (w := w) (base := base) X0
  have G_total := ok_total (w := w) (base := base) X0
  have G_plus := ok_plus (w := w) (base := base) X0
  have G_minus := ok_minus (w := w) (base := base) X0
  have G_times := ok_times (w := w) (base := base) X0
  have G_is_less := ok_is_less (w := w) (base := base) X0
  have G_floor_of := ok_floor_of (w := w) (base := base) X0
  have G_ceiling_of := ok_ceiling_of (w := w) (base := base) X0
  have G_nearest := ok_nearest (w := w) (base := base) X0
  have G_over := ok_over (w := w) (base := base) X0
  have sc := s_law
  exact
      def_of (T := tc K C_CoinsError C_BadNumber) (N := ["script", "row", "a", "b", "c", "d", "one", "other", "wholes", "below", "above", "best", "rows", "whole", "part", "middle", "value", "e", "k"]) (ps := ["script"]) (k := 31) (m := b_law) X0.F_law sc fun cdv A outer s H E hr hgd =>
    (z_cons (y_set (i := 1) sc.nd (by rfl) (by first | exact Or.inl rfl | exact Or.inr rfl) (r_cel (f_lst (s_cons (r_var 0) (s_cons r_int (s_cons r_int (s_cons r_int s_nil (by rfl)) (by rfl)) (by rfl)) (by rfl)))) (by rfl) (by first | exact .inl rfl | exact .inr rfl))
    (z_cons (y_asg (r_tup (s_cons (r_bin op_sub g_sub (r_call G_law_taken (by exact hr.mono (by omega)) (by exact hgd) (by rfl) X0.g_law_taken X0.k_law_taken X0.b_law_taken (by exact takes_of rfl rfl rfl rfl) (s_cons (r_var 1) (s_cons r_int s_nil (by rfl)) (by rfl)) (by decide) (by rfl) (by rfl)) r_int) (s_cons (r_bin op_addM g_add r_int (r_call G_law_taken (by exact hr.mono (by omega)) (by exact hgd) (by rfl) X0.g_law_taken X0.k_law_taken X0.b_law_taken (by exact takes_of rfl rfl rfl rfl) (s_cons (r_var 1) (s_cons r_int s_nil (by rfl)) (by rfl)) (by decide) (by rfl) (by rfl))) (s_cons (r_bin op_sub g_sub (r_call G_law_taken (by exact hr.mono (by omega)) (by exact hgd) (by rfl) X0.g_law_taken X0.k_law_taken X0.b_law_taken (by exact takes_of rfl rfl rfl rfl) (s_cons (r_var 1) (s_cons r_int s_nil (by rfl)) (by rfl)) (by decide) (by rfl) (by rfl)) r_int) (s_cons (r_bin op_addM g_add r_int (r_call G_law_taken (by exact hr.mono (by omega)) (by exact hgd) (by rfl) X0.g_law_taken X0.k_law_taken X0.b_law_taken (by exact takes_of rfl rfl rfl rfl) (s_cons (r_var 1) (s_cons r_int s_nil (by rfl)) (by rfl)) (by decide) (by rfl) (by rfl))) s_nil (by rfl)) (by rfl)) (by rfl)) (by rfl))) (t_tup (n := 4) (by rfl) (by rfl) (ts_cons (t_name (i := 2) sc.nd (by rfl) (by first | exact Or.inl rfl | exact Or.inr rfl) (by first | exact .inl rfl | exact .inr rfl)) (ts_cons (t_name (i := 3) sc.nd (by rfl) (by first | exact Or.inl rfl | exact Or.inr rfl) (by first | exact .inl rfl | exact .inr rfl)) (ts_cons (t_name (i := 4) sc.nd (by rfl) (by first | exact Or.inl rfl | exact Or.inr rfl) (by first | exact .inl rfl | exact .inr rfl)) (ts_cons (t_name (i := 5) sc.nd (by rfl) (by first | exact Or.inl rfl | exact Or.inr rfl) (by first | exact .inl rfl | exact .inr rfl)) ts_nil (by rfl)) (by rfl)) (by rfl)) (by rfl)) (by rfl) (by rfl)) (by rfl) (by rfl) (by rfl))
    (z_cons (y_par2 (i := 6) (j := 7) (by rfl) sc.nd (by rfl) (by rfl) (by decide) (by rfl) (by rfl) (s_cons (r_call G_reduced (by exact hr.mono (by omega)) (by exact hgd) (by rfl) X0.g_reduced X0.k_reduced X0.b_reduced (by exact takes_of rfl rfl rfl rfl) (s_cons (r_var 2) (s_cons (r_var 3) s_nil (by rfl)) (by rfl)) (by decide) (by rfl) (by rfl)) (s_cons (r_call G_reduced (by exact hr.mono (by omega)) (by exact hgd) (by rfl) X0.g_reduced X0.k_reduced X0.b_reduced (by exact takes_of rfl rfl rfl rfl) (s_cons (r_var 4) (s_cons (r_var 5) s_nil (by rfl)) (by rfl)) (by decide) (by rfl) (by rfl)) s_nil (by rfl)) (by rfl)) (by first | rfl | kernel_rfl) (by rfl))
    (z_cons (y_if (PW.pt (q_or (q_not (q_val (r_call G_law_alike (by exact hr.mono (by omega)) (by exact hgd) (by rfl) X0.g_law_alike X0.k_law_alike X0.b_law_alike (by exact takes_of rfl rfl rfl rfl) (s_cons (r_tup (s_cons (r_var 6) (s_cons (r_var 7) s_nil (by rfl)) (by rfl))) (s_cons (r_tup (s_cons (r_call G_law_low (by exact hr.mono (by omega)) (by exact hgd) (by rfl) X0.g_law_low X0.k_law_low X0.b_law_low (by exact takes_of rfl rfl rfl rfl) (s_cons (r_var 2) (s_cons (r_var 3) s_nil (by rfl)) (by rfl)) (by decide) (by rfl) (by rfl)) (s_cons (r_call G_law_low (by exact hr.mono (by omega)) (by exact hgd) (by rfl) X0.g_law_low X0.k_law_low X0.b_law_low (by exact takes_of rfl rfl rfl rfl) (s_cons (r_var 4) (s_cons (r_var 5) s_nil (by rfl)) (by rfl)) (by decide) (by rfl) (by rfl)) s_nil (by rfl)) (by rfl))) s_nil (by rfl)) (by rfl)) (by decide) (by rfl) (by rfl)) (by intro _; rfl))) (q_or (q_not (q_val (r_call G_is_fraction (by exact hr.mono (by omega)) (by exact hgd) (by rfl) X0.g_is_fraction X0.k_is_fraction X0.b_is_fraction (by exact takes_of rfl rfl rfl rfl) (s_cons (r_var 6) s_nil (by rfl)) (by decide) (by rfl) (by rfl)) (by intro _; rfl))) (q_or1 (q_val (r_call G_is_fraction (by exact hr.mono (by omega)) (by exact hgd) (by rfl) X0.g_is_fraction X0.k_is_fraction X0.b_is_fraction (by exact takes_of rfl rfl rfl rfl) (s_cons (r_tup (s_cons (r_bin op_mulM g_mul (r_var 2) r_int) (s_cons (r_bin op_mulM g_mul (r_var 3) r_int) s_nil (by rfl)) (by rfl))) s_nil (by rfl)) (by decide) (by rfl) (by rfl)) (by intro _; rfl)))))) (z_one (y_ret r_bl)) z_nil)
    (z_cons (y_if (q_not (q_val (r_call G_law_alike (by exact hr.mono (by omega)) (by exact hgd) (by rfl) X0.g_law_alike X0.k_law_alike X0.b_law_alike (by exact takes_of rfl rfl rfl rfl) (s_cons (r_tup (s_cons (r_call G_plus (by exact hr.mono (by omega)) (by exact hgd) (by rfl) X0.g_plus X0.k_plus X0.b_plus (by exact takes_of rfl rfl rfl rfl) (s_cons (r_var 6) (s_cons (r_var 7) s_nil (by rfl)) (by rfl)) (by decide) (by rfl) (by rfl)) (s_cons (r_call G_minus (by exact hr.mono (by omega)) (by exact hgd) (by rfl) X0.g_minus X0.k_minus X0.b_minus (by exact takes_of rfl rfl rfl rfl) (s_cons (r_var 6) (s_cons (r_var 7) s_nil (by rfl)) (by rfl)) (by decide) (by rfl) (by rfl)) (s_cons (r_call G_times (by exact hr.mono (by omega)) (by exact hgd) (by rfl) X0.g_times X0.k_times X0.b_times (by exact takes_of rfl rfl rfl rfl) (s_cons (r_var 6) (s_cons (r_var 7) s_nil (by rfl)) (by rfl)) (by decide) (by rfl) (by rfl)) s_nil (by rfl)) (by rfl)) (by rfl))) (s_cons (r_tup (s_cons (r_call G_law_low (by exact hr.mono (by omega)) (by exact hgd) (by rfl) X0.g_law_low X0.k_law_low X0.b_law_low (by exact takes_of rfl rfl rfl rfl) (s_cons (r_bin op_addM g_add (r_bin op_mulM g_mul (r_var 2) (r_var 5)) (r_bin op_mulM g_mul (r_var 4) (r_var 3))) (s_cons (r_bin op_mulM g_mul (r_var 3) (r_var 5)) s_nil (by rfl)) (by rfl)) (by decide) (by rfl) (by rfl)) (s_cons (r_call G_law_low (by exact hr.mono (by omega)) (by exact hgd) (by rfl) X0.g_law_low X0.k_law_low X0.b_law_low (by exact takes_of rfl rfl rfl rfl) (s_cons (r_bin op_sub g_sub (r_bin op_mulM g_mul (r_var 2) (r_var 5)) (r_bin op_mulM g_mul (r_var 4) (r_var 3))) (s_cons (r_bin op_mulM g_mul (r_var 3) (r_var 5)) s_nil (by rfl)) (by rfl)) (by decide) (by rfl) (by rfl)) (s_cons (r_call G_law_low (by exact hr.mono (by omega)) (by exact hgd) (by rfl) X0.g_law_low X0.k_law_low X0.b_law_low (by exact takes_of rfl rfl rfl rfl) (s_cons (r_bin op_mulM g_mul (r_var 2) (r_var 4)) (s_cons (r_bin op_mulM g_mul (r_var 3) (r_var 5)) s_nil (by rfl)) (by rfl)) (by decide) (by rfl) (by rfl)) s_nil (by rfl)) (by rfl)) (by rfl))) s_nil (by rfl)) (by rfl)) (by decide) (by rfl) (by rfl)) (by intro _; rfl))) (z_one (y_ret r_bl)) z_nil)
    (z_cons (y_if (PW.pt (q_or (PW.pt (q_and (q_cmp op_gt g_gt (r_var 4) r_int (by first | exact nomark _ | with_unfolding_all rfl)) (q_and1 (q_not (q_val (r_call G_law_alike (by exact hr.mono (by omega)) (by exact hgd) (by rfl) X0.g_law_alike X0.k_law_alike X0.b_law_alike (by exact takes_of rfl rfl rfl rfl) (s_cons (r_call G_over (by exact hr.mono (by omega)) (by exact hgd) (by rfl) X0.g_over X0.k_over X0.b_over (by exact takes_of rfl rfl rfl rfl) (s_cons (r_var 6) (s_cons (r_var 7) s_nil (by rfl)) (by rfl)) (by decide) (by rfl) (by rfl)) (s_cons (r_call G_law_low (by exact hr.mono (by omega)) (by exact hgd) (by rfl) X0.g_law_low X0.k_law_low X0.b_law_low (by exact takes_of rfl rfl rfl rfl) (s_cons (r_bin op_mulM g_mul (r_var 2) (r_var 5)) (s_cons (r_bin op_mulM g_mul (r_var 3) (r_var 4)) s_nil (by rfl)) (by rfl)) (by decide) (by rfl) (by rfl)) s_nil (by rfl)) (by rfl)) (by decide) (by rfl) (by rfl)) (by intro _; rfl)))))) (q_or1 (q_not (q_val (r_call G_law_truth (by exact hr.mono (by omega)) (by exact hgd) (by rfl) X0.g_law_truth X0.k_law_truth X0.b_law_truth (by exact takes_of rfl rfl rfl rfl) (s_cons (r_call G_is_less (by exact hr.mono (by omega)) (by exact hgd) (by rfl) X0.g_is_less X0.k_is_less X0.b_is_less (by exact takes_of rfl rfl rfl rfl) (s_cons (r_var 6) (s_cons (r_var 7) s_nil (by rfl)) (by rfl)) (by decide) (by rfl) (by rfl)) (s_cons (r_cmp op_lt g_lt (r_bin op_mulM g_mul (r_var 2) (r_var 5)) (r_bin op_mulM g_mul (r_var 4) (r_var 3)) (by first | exact nomark _ | with_unfolding_all rfl)) s_nil (by rfl)) (by rfl)) (by decide) (by rfl) (by rfl)) (by intro _; rfl)))))) (z_one (y_ret r_bl)) z_nil)
    (z_cons (y_set (i := 8) sc.nd (by rfl) (by first | exact Or.inl rfl | exact Or.inr rfl) (r_fr (f_lr2 (by rfl) (by rfl) X0.n_list (by rfl) X0.n_range (r_un un_neg g_neg r_int) r_int (by rfl) (by rfl) (by rfl) (by rfl))) (by rfl) (by first | exact .inl rfl | exact .inr rfl))
    (z_cons (y_par2 (i := 9) (j := 10) (by rfl) sc.nd (by rfl) (by rfl) (by decide) (by rfl) (by rfl) (s_cons (r_callB (call_maxM (by rfl)) g_max (by rfl) X0.n_max (by first | boot_by_name | rfl | kernel_rfl) (s_cons (r_fr (f_lc (own := [("k", 18)]) (by rfl) sc.nd (i_seq (by rfl) (r_var 8)) (blkOk_by (by first | rfl | kernel_rfl)) (fun _ _ _ _ _ => (tw_name (i := 18) (by decide) sc.nd (by rfl) (by first | exact Or.inl rfl | exact Or.inr rfl) (by first | exact .inl rfl | exact .inr rfl))) (fun _ _ _ _ _ => (w_one (q_cmp op_le g_le (r_bin op_mulM g_mul (r_var 18) (r_var 3)) (r_var 2) (by first | exact nomark _ | with_unfolding_all rfl)))) (fun _ _ _ _ _ => (r_var 18)) (by intro _; rfl))) s_nil (by rfl)) (by decide) (by decide) (by rfl) (by rfl)) (s_cons (r_callB (call_minM (by rfl)) g_min (by rfl) X0.n_min (by first | boot_by_name | rfl | kernel_rfl) (s_cons (r_fr (f_lc (own := [("k", 18)]) (by rfl) sc.nd (i_seq (by rfl) (r_var 8)) (blkOk_by (by first | rfl | kernel_rfl)) (fun _ _ _ _ _ => (tw_name (i := 18) (by decide) sc.nd (by rfl) (by first | exact Or.inl rfl | exact Or.inr rfl) (by first | exact .inl rfl | exact .inr rfl))) (fun _ _ _ _ _ => (w_one (q_cmp op_ge g_ge (r_bin op_mulM g_mul (r_var 18) (r_var 3)) (r_var 2) (by first | exact nomark _ | with_unfolding_all rfl)))) (fun _ _ _ _ _ => (r_var 18)) (by intro _; rfl))) s_nil (by rfl)) (by decide) (by decide) (by rfl) (by rfl)) s_nil (by rfl)) (by rfl)) (by first | rfl | kernel_rfl) (by rfl))
    (z_cons (y_set (i := 11) sc.nd (by rfl) (by first | exact Or.inl rfl | exact Or.inr rfl) (r_callB (call_maxM (by rfl)) g_max (by rfl) X0.n_max (by first | boot_by_name | rfl | kernel_rfl) (s_cons (r_fr (f_lc (own := [("k", 18)]) (by rfl) sc.nd (i_seq (by rfl) (r_var 8)) (blkOk_by (by first | rfl | kernel_rfl)) (fun _ _ _ _ _ => (tw_name (i := 18) (by decide) sc.nd (by rfl) (by first | exact Or.inl rfl | exact Or.inr rfl) (by first | exact .inl rfl | exact .inr rfl))) (fun _ _ _ _ _ => (w_one (q_cmp op_le g_le (r_bin op_mulM g_mul (r_bin op_sub g_sub (r_bin op_mulM g_mul r_int (r_var 18)) r_int) (r_var 3)) (r_bin op_mulM g_mul r_int (r_var 2)) (by first | exact nomark _ | with_unfolding_all rfl)))) (fun _ _ _ _ _ => (r_var 18)) (by intro _; rfl))) s_nil (by rfl)) (by decide) (by decide) (by rfl) (by rfl)) (by rfl) (by first | exact .inl rfl | exact .inr rfl))
    (z_cons (y_if (q_not (q_val (r_call G_law_alike (by exact hr.mono (by omega)) (by exact hgd) (by rfl) X0.g_law_alike X0.k_law_alike X0.b_law_alike (by exact takes_of rfl rfl rfl rfl) (s_cons (r_tup (s_cons (r_call G_floor_of (by exact hr.mono (by omega)) (by exact hgd) (by rfl) X0.g_floor_of X0.k_floor_of X0.b_floor_of (by exact takes_of rfl rfl rfl rfl) (s_cons (r_var 6) s_nil (by rfl)) (by decide) (by rfl) (by rfl)) (s_cons (r_call G_ceiling_of (by exact hr.mono (by omega)) (by exact hgd) (by rfl) X0.g_ceiling_of X0.k_ceiling_of X0.b_ceiling_of (by exact takes_of rfl rfl rfl rfl) (s_cons (r_var 6) s_nil (by rfl)) (by decide) (by rfl) (by rfl)) (s_cons (r_call G_nearest (by exact hr.mono (by omega)) (by exact hgd) (by rfl) X0.g_nearest X0.k_nearest X0.b_nearest (by exact takes_of rfl rfl rfl rfl) (s_cons (r_var 6) s_nil (by rfl)) (by decide) (by rfl) (by rfl)) s_nil (by rfl)) (by rfl)) (by rfl))) (s_cons (r_tup (s_cons (r_var 9) (s_cons (r_var 10) (s_cons (r_var 11) s_nil (by rfl)) (by rfl)) (by rfl))) s_nil (by rfl)) (by rfl)) (by decide) (by rfl) (by rfl)) (by intro _; rfl))) (z_one (y_ret r_bl)) z_nil)
    (z_cons (y_par2 (i := 12) (j := 13) (by rfl) sc.nd (by rfl) (by rfl) (by decide) (by rfl) (by rfl) (s_cons (r_bin op_addM g_add (r_lst (s_cons (r_var 6) (s_cons (r_var 7) s_nil (by rfl)) (by rfl))) (r_fr (f_lc (own := [("k", 18)]) (by rfl) sc.nd (i_range1 (by rfl) X0.n_range (s_cons (r_call G_law_taken (by exact hr.mono (by omega)) (by exact hgd) (by rfl) X0.g_law_taken X0.k_law_taken X0.b_law_taken (by exact takes_of rfl rfl rfl rfl) (s_cons (r_var 1) (s_cons r_int s_nil (by rfl)) (by rfl)) (by decide) (by rfl) (by rfl)) s_nil (by rfl)) (by rfl)) (blkOk_by (by first | rfl | kernel_rfl)) (fun _ _ _ _ _ => (tw_name (i := 18) (by decide) sc.nd (by rfl) (by first | exact Or.inl rfl | exact Or.inr rfl) (by first | exact .inl rfl | exact .inr rfl))) (fun _ _ _ _ _ => w_nil) (fun _ _ _ _ _ => (r_call G_reduced (by exact hr.mono (by omega)) (by exact hgd) (by rfl) X0.g_reduced X0.k_reduced X0.b_reduced takes0 (s_cons (r_bin op_sub g_sub (r_call G_law_taken (by exact hr.mono (by omega)) (by exact hgd) (by rfl) X0.g_law_taken X0.k_law_taken X0.b_law_taken takes0 (s_cons (r_var 1) (s_cons r_int s_nil (by rfl)) (by rfl)) (by decide) (by rfl) (by rfl)) r_int) (s_cons (r_bin op_addM g_add r_int (r_call G_law_taken (by exact hr.mono (by omega)) (by exact hgd) (by rfl) X0.g_law_taken X0.k_law_taken X0.b_law_taken takes0 (s_cons (r_var 1) (s_cons r_int s_nil (by rfl)) (by rfl)) (by decide) (by rfl) (by rfl))) s_nil (by rfl)) (by rfl)) (by decide) (by rfl) (by rfl))) (by intro _; rfl)))) (s_cons (r_tup (s_cons r_int (s_cons r_int s_nil (by rfl)) (by rfl))) s_nil (by rfl)) (by rfl)) (by first | rfl | kernel_rfl) (by rfl))
    (z_cons (y_for (by exact passes_of rfl) (by rfl) (i_seq (by rfl) (r_var 12)) (t_name (i := 14) sc.nd (by rfl) (by first | exact Or.inl rfl | exact Or.inr rfl) (by first | exact .inl rfl | exact .inr rfl)) (z_one (y_set (i := 13) sc.nd (by rfl) (by first | exact Or.inl rfl | exact Or.inr rfl) (r_call G_law_low (by exact hr.mono (by omega)) (by exact hgd) (by rfl) X0.g_law_low X0.k_law_low X0.b_law_low (by exact takes_of rfl rfl rfl rfl) (s_cons (r_bin op_addM g_add (r_bin op_mulM g_mul (r_ix (by rfl) (by have h := Mir.u1 hr; exact h) (r_var 13) r_int (by exact fun _ _ => rfl)) (r_ix (by rfl) (by have h := Mir.u1 hr; exact h) (r_var 14) r_int (by exact fun _ _ => rfl))) (r_bin op_mulM g_mul (r_ix (by rfl) (by have h := Mir.u1 hr; exact h) (r_var 14) r_int (by exact fun _ _ => rfl)) (r_ix (by rfl) (by have h := Mir.u1 hr; exact h) (r_var 13) r_int (by exact fun _ _ => rfl)))) (s_cons (r_bin op_mulM g_mul (r_ix (by rfl) (by have h := Mir.u1 hr; exact h) (r_var 13) r_int (by exact fun _ _ => rfl)) (r_ix (by rfl) (by have h := Mir.u1 hr; exact h) (r_var 14) r_int (by exact fun _ _ => rfl))) s_nil (by rfl)) (by rfl)) (by decide) (by rfl) (by rfl)) (by rfl) (by first | exact .inl rfl | exact .inr rfl))) (by intro _; rfl))
    (z_cons (y_if (q_not (q_val (r_call G_law_alike (by exact hr.mono (by omega)) (by exact hgd) (by rfl) X0.g_law_alike X0.k_law_alike X0.b_law_alike (by exact takes_of rfl rfl rfl rfl) (s_cons (r_call G_total (by exact hr.mono (by omega)) (by exact hgd) (by rfl) X0.g_total X0.k_total X0.b_total (by exact takes_of rfl rfl rfl rfl) (s_cons (r_var 12) s_nil (by rfl)) (by decide) (by rfl) (by rfl)) (s_cons (r_var 13) s_nil (by rfl)) (by rfl)) (by decide) (by rfl) (by rfl)) (by intro _; rfl))) (z_one (y_ret r_bl)) z_nil)
    (z_cons (y_set (i := 15) sc.nd (by rfl) (by first | exact Or.inl rfl | exact Or.inr rfl) (r_call G_median (by exact hr.mono (by omega)) (by exact hgd) (by rfl) X0.g_median X0.k_median X0.b_median (by exact takes_of rfl rfl rfl rfl) (s_cons (r_var 12) s_nil (by rfl)) (by decide) (by rfl) (by rfl)) (by rfl) (by first | exact .inl rfl | exact .inr rfl))
    (z_cons (y_set (i := 9) sc.nd (by rfl) (by first | exact Or.inl rfl | exact Or.inr rfl) (r_callB call_lenM g_len (by rfl) X0.n_len (by first | boot_by_name | rfl | kernel_rfl) (s_cons (r_fr (f_lc (own := [("part", 14)]) (by rfl) sc.nd (i_seq (by rfl) (r_var 12)) (blkOk_by (by first | rfl | kernel_rfl)) (fun _ _ _ _ _ => (tw_name (i := 14) (by decide) sc.nd (by rfl) (by first | exact Or.inl rfl | exact Or.inr rfl) (by first | exact .inl rfl | exact .inr rfl))) (fun _ _ _ _ _ => (w_one (q_cmp op_lt g_lt (r_bin op_mulM g_mul (r_ix (by rfl) (by have h := Mir.u1 hr; exact h) (r_var 14) r_int (by exact fun _ _ => rfl)) (r_ix (by rfl) (by have h := Mir.u1 hr; exact h) (r_var 15) r_int (by exact fun _ _ => rfl))) (r_bin op_mulM g_mul (r_ix (by rfl) (by have h := Mir.u1 hr; exact h) (r_var 15) r_int (by exact fun _ _ => rfl)) (r_ix (by rfl) (by have h := Mir.u1 hr; exact h) (r_var 14) r_int (by exact fun _ _ => rfl))) (by first | exact nomark _ | with_unfolding_all rfl)))) (fun _ _ _ _ _ => r_int) (by intro _; rfl))) s_nil (by rfl)) (by decide) (by decide) (by rfl) (by rfl)) (by rfl) (by first | exact .inl rfl | exact .inr rfl))
    (z_cons (y_set (i := 10) sc.nd (by rfl) (by first | exact Or.inl rfl | exact Or.inr rfl) (r_callB call_lenM g_len (by rfl) X0.n_len (by first | boot_by_name | rfl | kernel_rfl) (s_cons (r_fr (f_lc (own := [("part", 14)]) (by rfl) sc.nd (i_seq (by rfl) (r_var 12)) (blkOk_by (by first | rfl | kernel_rfl)) (fun _ _ _ _ _ => (tw_name (i := 14) (by decide) sc.nd (by rfl) (by first | exact Or.inl rfl | exact Or.inr rfl) (by first | exact .inl rfl | exact .inr rfl))) (fun _ _ _ _ _ => (w_one (q_cmp op_gt g_gt (r_bin op_mulM g_mul (r_ix (by rfl) (by have h := Mir.u1 hr; exact h) (r_var 14) r_int (by exact fun _ _ => rfl)) (r_ix (by rfl) (by have h := Mir.u1 hr; exact h) (r_var 15) r_int (by exact fun _ _ => rfl))) (r_bin op_mulM g_mul (r_ix (by rfl) (by have h := Mir.u1 hr; exact h) (r_var 15) r_int (by exact fun _ _ => rfl)) (r_ix (by rfl) (by have h := Mir.u1 hr; exact h) (r_var 14) r_int (by exact fun _ _ => rfl))) (by first | exact nomark _ | with_unfolding_all rfl)))) (fun _ _ _ _ _ => r_int) (by intro _; rfl))) s_nil (by rfl)) (by decide) (by decide) (by rfl) (by rfl)) (by rfl) (by first | exact .inl rfl | exact .inr rfl))
    (z_cons (y_if (PW.pt (q_or (q_cmp op_gt g_gt (r_bin op_mulM g_mul r_int (r_var 9)) (r_callB call_lenM g_len (by rfl) X0.n_len (by first | boot_by_name | rfl | kernel_rfl) (s_cons (r_var 12) s_nil (by rfl)) (by decide) (by decide) (by rfl) (by rfl)) (by first | exact nomark _ | with_unfolding_all rfl)) (q_or (q_cmp op_gt g_gt (r_bin op_mulM g_mul r_int (r_var 10)) (r_callB call_lenM g_len (by rfl) X0.n_len (by first | boot_by_name | rfl | kernel_rfl) (s_cons (r_var 12) s_nil (by rfl)) (by decide) (by decide) (by rfl) (by rfl)) (by first | exact nomark _ | with_unfolding_all rfl)) (q_or1 (PW.pt (q_and (q_cmp (op_eqD (by have h := Mir.u64 hr; exact h)) g_eq (r_bin op_mod g_mod (r_callB call_lenM g_len (by rfl) X0.n_len (by first | boot_by_name | rfl | kernel_rfl) (s_cons (r_var 12) s_nil (by rfl)) (by decide) (by decide) (by rfl) (by rfl)) r_int) r_int (by first | exact nomark _ | with_unfolding_all rfl)) (q_and1 (q_cmp (op_notInM (by have h := Mir.u65 hr; exact h)) g_notIn (r_var 15) (r_var 12) (by first | exact nomark _ | with_unfolding_all rfl))))))))) (z_one (y_ret r_bl)) z_nil)
    (z_cons (y_for (by exact passes_of rfl) (by rfl) (i_seq (by rfl) (r_lst (s_cons r_non (s_cons (r_tup (s_cons r_int (s_cons r_int s_nil (by rfl)) (by rfl))) (s_cons (r_tup (s_cons r_int (s_cons r_int s_nil (by rfl)) (by rfl))) (s_cons (r_tup (s_cons r_int (s_cons r_int s_nil (by rfl)) (by rfl))) (s_cons (r_tup (s_cons r_int s_nil (by rfl))) (s_cons (r_tup (s_cons r_bl (s_cons r_int s_nil (by rfl)) (by rfl))) (s_cons (r_lst (s_cons r_int (s_cons r_int (s_cons r_int s_nil (by rfl)) (by rfl)) (by rfl))) (s_cons r_int (s_cons (r_tup (s_cons r_int (s_cons (r_un un_neg g_neg r_int) s_nil (by rfl)) (by rfl))) s_nil (by rfl)) (by rfl)) (by rfl)) (by rfl)) (by rfl)) (by rfl)) (by rfl)) (by rfl)) (by rfl)))) (t_name (i := 16) sc.nd (by rfl) (by first | exact Or.inl rfl | exact Or.inr rfl) (by first | exact .inl rfl | exact .inr rfl)) (z_cons (y_if (q_val (r_call G_is_fraction (by exact hr.mono (by omega)) (by exact hgd) (by rfl) X0.g_is_fraction X0.k_is_fraction X0.b_is_fraction (by exact takes_of rfl rfl rfl rfl) (s_cons (r_var 16) s_nil (by rfl)) (by decide) (by rfl) (by rfl)) (by intro _; rfl)) (z_one (y_ret r_bl)) z_nil)
    (z_one (y_tryAs (i := 17) (by rfl) (by rfl) (by rfl) sc.nd (by rfl) (by rfl) (by exact ⟨rfl, by decide, Or.inl X0.gc_BadNumber⟩) (by exact takes_of rfl rfl rfl rfl) X0.isa_BadNumber (fun W pn xe tk2 ps => (z_cons (y_expr (r_call G_want_fraction (by exact hr.mono (by omega)) (by exact hgd) (by rfl) X0.g_want_fraction X0.k_want_fraction X0.b_want_fraction tk2 (s_cons (r_var 16) s_nil (by rfl)) (by decide) (by rfl) (by rfl)) (by rfl))
    (z_one (y_ret r_bl)))) (fun a oe cls d pn hz hf => (z_one (y_if (q_cmp (op_neD (by have h := Mir.u64 hr; exact h)) g_ne (r_callB (call_reprM (by have h := hgd; exact h) (by have h := Mir.u62 hr; exact h)) g_repr (by rfl) X0.n_repr (by first | boot_by_name | rfl | kernel_rfl) (s_cons (r_xf (i := 17) c_BadNumber X0.x_BadNumber X0.o_BadNumber_value hz hf (by rfl) (by exact Or.inl rfl)) s_nil (by rfl)) (by decide) (by decide) (by rfl) (by rfl)) (r_callB (call_reprM (by have h := hgd; exact h) (by have h := Mir.u62 hr; exact h)) g_repr (by rfl) X0.n_repr (by first | boot_by_name | rfl | kernel_rfl) (s_cons (r_var 16) s_nil (by rfl)) (by decide) (by decide) (by rfl) (by rfl)) (by first | exact nomark _ | with_unfolding_all rfl)) (z_one (y_ret r_bl)) z_nil)))))) (by intro _; rfl))
    (z_one (y_ret (r_call G_law_alike (by exact hr.mono (by omega)) (by exact hgd) (by rfl) X0.g_law_alike X0.k_law_alike X0.b_law_alike (by exact takes_of rfl rfl rfl rfl) (s_cons (r_call G_want_fraction (by exact hr.mono (by omega)) (by exact hgd) (by rfl) X0.g_want_fraction X0.k_want_fraction X0.b_want_fraction (by exact takes_of rfl rfl rfl rfl) (s_cons (r_callTy (call_listM (by rfl)) g_list (by rfl) X0.n_list (by first | boot_by_name | rfl | kernel_rfl) (s_cons (r_var 6) s_nil (by rfl)) (by decide) (by decide) (by rfl) (by rfl)) s_nil (by rfl)) (by decide) (by rfl) (by rfl)) (s_cons (r_var 6) s_nil (by rfl)) (by rfl)) (by decide) (by rfl) (by rfl))))))))))))))))))))))
end
theorem all_mk {P : Program} {w : World} {K : PySem.W.Frag} {h : Heap} {mg : Str → Option Value} {fa f_is_whole f_is_row f_reduced f_is_fraction f_want_fraction f_plus f_minus f_times f_over f_is_less f_floor_of f_ceiling_of f_nearest f_total f_median f_law_taken f_law_alike f_law_truth f_law_low f_law : Addr} {C_CoinsError C_BadNumber fI_BadNumber cda_BadNumber cc_BadNumber : Addr} (X : K.In h) (G : h.Ns mainGlobals mg) (hfa : mg "law" = some (.ref fa))
    {od_is_whole an_is_whole : Option Addr} {sl_is_whole : Array (Option Value)} {oc_is_whole kV_is_whole dc_is_whole pm_is_whole cd_is_whole ct_is_whole : Value}
    {od_is_row an_is_row : Option Addr} {sl_is_row : Array (Option Value)} {oc_is_row kV_is_row dc_is_row pm_is_row cd_is_row ct_is_row : Value}
    {od_reduced an_reduced : Option Addr} {sl_reduced : Array (Option Value)} {oc_reduced kV_reduced dc_reduced pm_reduced cd_reduced ct_reduced : Value}
    {od_is_fraction an_is_fraction : Option Addr} {sl_is_fraction : Array (Option Value)} {oc_is_fraction kV_is_fraction dc_is_fraction pm_is_fraction cd_is_fraction ct_is_fraction : Value}
    {od_want_fraction an_want_fraction : Option Addr} {sl_want_fraction : Array (Option Value)} {oc_want_fraction kV_want_fraction dc_want_fraction pm_want_fraction cd_want_fraction ct_want_fraction : Value}
    {od_plus an_plus : Option Addr} {sl_plus : Array (Option Value)} {oc_plus kV_plus dc_plus pm_plus cd_plus ct_plus : Value}
    {od_minus an_minus : Option Addr} {sl_minus : Array (Option Value)} {oc_minus kV_minus dc_minus pm_minus cd_minus ct_minus : Value}
    {od_times an_times : Option Addr} {sl_times : Array (Option Value)} {oc_times kV_times dc_times pm_times cd_times ct_times : Value}
    {od_over an_over : Option Addr} {sl_over : Array (Option Value)} {oc_over kV_over dc_over pm_over cd_over ct_over : Value}
    {od_is_less an_is_less : Option Addr} {sl_is_less : Array (Option Value)} {oc_is_less kV_is_less dc_is_less pm_is_less cd_is_less ct_is_less : Value}
    {od_floor_of an_floor_of : Option Addr} {sl_floor_of : Array (Option Value)} {oc_floor_of kV_floor_of dc_floor_of pm_floor_of cd_floor_of ct_floor_of : Value}
    {od_ceiling_of an_ceiling_of : Option Addr} {sl_ceiling_of : Array (Option Value)} {oc_ceiling_of kV_ceiling_of dc_ceiling_of pm_ceiling_of cd_ceiling_of ct_ceiling_of : Value}
    {od_nearest an_nearest : Option Addr} {sl_nearest : Array (Option Value)} {oc_nearest kV_nearest dc_nearest pm_nearest cd_nearest ct_nearest : Value}
    {od_total an_total : Option Addr} {sl_total : Array (Option Value)} {oc_total kV_total dc_total pm_total cd_total ct_total : Value}
    {od_median an_median : Option Addr} {sl_median : Array (Option Value)} {oc_median kV_median dc_median pm_median cd_median ct_median : Value}
    {od_law_taken an_law_taken : Option Addr} {sl_law_taken : Array (Option Value)} {oc_law_taken kV_law_taken dc_law_taken pm_law_taken cd_law_taken ct_law_taken : Value}
    {od_law_alike an_law_alike : Option Addr} {sl_law_alike : Array (Option Value)} {oc_law_alike kV_law_alike dc_law_alike pm_law_alike cd_law_alike ct_law_alike : Value}
    {od_law_truth an_law_truth : Option Addr} {sl_law_truth : Array (Option Value)} {oc_law_truth kV_law_truth dc_law_truth pm_law_truth cd_law_truth ct_law_truth : Value}
    {od_law_low an_law_low : Option Addr} {sl_law_low : Array (Option Value)} {oc_law_low kV_law_low dc_law_low pm_law_low cd_law_low ct_law_low : Value}
    {od_law an_law : Option Addr} {sl_law : Array (Option Value)} {oc_law kV_law dc_law pm_law cd_law ct_law : Value}
    {nm_BadNumber q_BadNumber : Str} {N_BadNumber : Addr} {bs_BadNumber : List Value} {sn_BadNumber : List Str} {sub_BadNumber : List Value} {ab_BadNumber : Bool} {col_BadNumber : Option Bool} {dd_BadNumber : Option Addr} {m0_BadNumber m1_BadNumber m2_BadNumber m3_BadNumber m5_BadNumber : Option Value}
    {oi_BadNumber : Value} {odi_BadNumber ani_BadNumber : Option Addr} {sli_BadNumber : Array (Option Value)} {kVi_BadNumber dci_BadNumber pmi_BadNumber cti_BadNumber : Value}
    {ccl_BadNumber : Value} {cdd_BadNumber : Option Addr} {cvs_BadNumber : Array Value} {ccs_BadNumber : Array (Option Value)} {file_BadNumber : Str} {tf_BadNumber : Tok} {cel_BadNumber : Value} {ceo_BadNumber : Option Addr} {ces_BadNumber : Array (Option Value)}
    (nb_abs : PySem.W.nsIn K mainGlobals "abs" = some none)
    (nb_bool : PySem.W.nsIn K mainGlobals "bool" = some none)
    (nb_int : PySem.W.nsIn K mainGlobals "int" = some none)
    (nb_isinstance : PySem.W.nsIn K mainGlobals "isinstance" = some none)
    (nb_len : PySem.W.nsIn K mainGlobals "len" = some none)
    (nb_list : PySem.W.nsIn K mainGlobals "list" = some none)
    (nb_max : PySem.W.nsIn K mainGlobals "max" = some none)
    (nb_min : PySem.W.nsIn K mainGlobals "min" = some none)
    (nb_range : PySem.W.nsIn K mainGlobals "range" = some none)
    (nb_repr : PySem.W.nsIn K mainGlobals "repr" = some none)
    (nb_str : PySem.W.nsIn K mainGlobals "str" = some none)
    (nb_tuple : PySem.W.nsIn K mainGlobals "tuple" = some none)
    (a_CoinsError : PySem.W.nsIn K mainGlobals "CoinsError" = some (some (.ref C_CoinsError)))
    (a_BadNumber : PySem.W.nsIn K mainGlobals "BadNumber" = some (some (.ref C_BadNumber)))
    (a_is_whole : PySem.W.nsIn K mainGlobals "is_whole" = some (some (.ref f_is_whole)))
    (l_is_whole : K.lookup f_is_whole = some ⟨oc_is_whole, od_is_whole, .func (PySem.W.fnOf "is_whole" "is_whole" (defArgs (top 4)) (defBody (top 4)) (defScope (top 4)) .none kV_is_whole dc_is_whole pm_is_whole an_is_whole cd_is_whole ct_is_whole), sl_is_whole⟩)
    (c_is_whole : PySem.W.codeIn K cd_is_whole "is_whole" = true)
    (k_is_whole : PySem.W.keepIn K (.ref f_is_whole) = true)
    (a_is_row : PySem.W.nsIn K mainGlobals "is_row" = some (some (.ref f_is_row)))
    (l_is_row : K.lookup f_is_row = some ⟨oc_is_row, od_is_row, .func (PySem.W.fnOf "is_row" "is_row" (defArgs (top 5)) (defBody (top 5)) (defScope (top 5)) .none kV_is_row dc_is_row pm_is_row an_is_row cd_is_row ct_is_row), sl_is_row⟩)
    (c_is_row : PySem.W.codeIn K cd_is_row "is_row" = true)
    (k_is_row : PySem.W.keepIn K (.ref f_is_row) = true)
    (a_reduced : PySem.W.nsIn K mainGlobals "reduced" = some (some (.ref f_reduced)))
    (l_reduced : K.lookup f_reduced = some ⟨oc_reduced, od_reduced, .func (PySem.W.fnOf "reduced" "reduced" (defArgs (top 7)) (defBody (top 7)) (defScope (top 7)) .none kV_reduced dc_reduced pm_reduced an_reduced cd_reduced ct_reduced), sl_reduced⟩)
    (c_reduced : PySem.W.codeIn K cd_reduced "reduced" = true)
    (k_reduced : PySem.W.keepIn K (.ref f_reduced) = true)
    (a_is_fraction : PySem.W.nsIn K mainGlobals "is_fraction" = some (some (.ref f_is_fraction)))
    (l_is_fraction : K.lookup f_is_fraction = some ⟨oc_is_fraction, od_is_fraction, .func (PySem.W.fnOf "is_fraction" "is_fraction" (defArgs (top 8)) (defBody (top 8)) (defScope (top 8)) .none kV_is_fraction dc_is_fraction pm_is_fraction an_is_fraction cd_is_fraction ct_is_fraction), sl_is_fraction⟩)
    (c_is_fraction : PySem.W.codeIn K cd_is_fraction "is_fraction" = true)
    (k_is_fraction : PySem.W.keepIn K (.ref f_is_fraction) = true)
    (a_want_fraction : PySem.W.nsIn K mainGlobals "want_fraction" = some (some (.ref f_want_fraction)))
    (l_want_fraction : K.lookup f_want_fraction = some ⟨oc_want_fraction, od_want_fraction, .func (PySem.W.fnOf "want_fraction" "want_fraction" (defArgs (top 9)) (defBody (top 9)) (defScope (top 9)) .none kV_want_fraction dc_want_fraction pm_want_fraction an_want_fraction cd_want_fraction ct_want_fraction), sl_want_fraction⟩)
    (c_want_fraction : PySem.W.codeIn K cd_want_fraction "want_fraction" = true)
    (k_want_fraction : PySem.W.keepIn K (.ref f_want_fraction) = true)
    (a_plus : PySem.W.nsIn K mainGlobals "plus" = some (some (.ref f_plus)))
    (l_plus : K.lookup f_plus = some ⟨oc_plus, od_plus, .func (PySem.W.fnOf "plus" "plus" (defArgs (top 10)) (defBody (top 10)) (defScope (top 10)) .none kV_plus dc_plus pm_plus an_plus cd_plus ct_plus), sl_plus⟩)
    (c_plus : PySem.W.codeIn K cd_plus "plus" = true)
    (k_plus : PySem.W.keepIn K (.ref f_plus) = true)
    (a_minus : PySem.W.nsIn K mainGlobals "minus" = some (some (.ref f_minus)))
    (l_minus : K.lookup f_minus = some ⟨oc_minus, od_minus, .func (PySem.W.fnOf "minus" "minus" (defArgs (top 11)) (defBody (top 11)) (defScope (top 11)) .none kV_minus dc_minus pm_minus an_minus cd_minus ct_minus), sl_minus⟩)
    (c_minus : PySem.W.codeIn K cd_minus "minus" = true)
    (k_minus : PySem.W.keepIn K (.ref f_minus) = true)
    (a_times : PySem.W.nsIn K mainGlobals "times" = some (some (.ref f_times)))
    (l_times : K.lookup f_times = some ⟨oc_times, od_times, .func (PySem.W.fnOf "times" "times" (defArgs (top 12)) (defBody (top 12)) (defScope (top 12)) .none kV_times dc_times pm_times an_times cd_times ct_times), sl_times⟩)
    (c_times : PySem.W.codeIn K cd_times "times" = true)
    (k_times : PySem.W.keepIn K (.ref f_times) = true)
    (a_over : PySem.W.nsIn K mainGlobals "over" = some (some (.ref f_over)))
    (l_over : K.lookup f_over = some ⟨oc_over, od_over, .func (PySem.W.fnOf "over" "over" (defArgs (top 13)) (defBody (top 13)) (defScope (top 13)) .none kV_over dc_over pm_over an_over cd_over ct_over), sl_over⟩)
    (c_over : PySem.W.codeIn K cd_over "over" = true)
    (k_over : PySem.W.keepIn K (.ref f_over) = true)
    (a_is_less : PySem.W.nsIn K mainGlobals "is_less" = some (some (.ref f_is_less)))
    (l_is_less : K.lookup f_is_less = some ⟨oc_is_less, od_is_less, .func (PySem.W.fnOf "is_less" "is_less" (defArgs (top 14)) (defBody (top 14)) (defScope (top 14)) .none kV_is_less dc_is_less pm_is_less an_is_less cd_is_less ct_is_less), sl_is_less⟩)
    (c_is_less : PySem.W.codeIn K cd_is_less "is_less" = true)
    (k_is_less : PySem.W.keepIn K (.ref f_is_less) = true)
    (a_floor_of : PySem.W.nsIn K mainGlobals "floor_of" = some (some (.ref f_floor_of)))
    (l_floor_of : K.lookup f_floor_of = some ⟨oc_floor_of, od_floor_of, .func (PySem.W.fnOf "floor_of" "floor_of" (defArgs (top 15)) (defBody (top 15)) (defScope (top 15)) .none kV_floor_of dc_floor_of pm_floor_of an_floor_of cd_floor_of ct_floor_of), sl_floor_of⟩)
    (c_floor_of : PySem.W.codeIn K cd_floor_of "floor_of" = true)
    (k_floor_of : PySem.W.keepIn K (.ref f_floor_of) = true)
    (a_ceiling_of : PySem.W.nsIn K mainGlobals "ceiling_of" = some (some (.ref f_ceiling_of)))
    (l_ceiling_of : K.lookup f_ceiling_of = some ⟨oc_ceiling_of, od_ceiling_of, .func (PySem.W.fnOf "ceiling_of" "ceiling_of" (defArgs (top 16)) (defBody (top 16)) (defScope (top 16)) .none kV_ceiling_of dc_ceiling_of pm_ceiling_of an_ceiling_of cd_ceiling_of ct_ceiling_of), sl_ceiling_of⟩)
    (c_ceiling_of : PySem.W.codeIn K cd_ceiling_of "ceiling_of" = true)
    (k_ceiling_of : PySem.W.keepIn K (.ref f_ceiling_of) = true)
    (a_nearest : PySem.W.nsIn K mainGlobals "nearest" = some (some (.ref f_nearest)))
    (l_nearest : K.lookup f_nearest = some ⟨oc_nearest, od_nearest, .func (PySem.W.fnOf "nearest" "nearest" (defArgs (top 17)) (defBody (top 17)) (defScope (top 17)) .none kV_nearest dc_nearest pm_nearest an_nearest cd_nearest ct_nearest), sl_nearest⟩)
    (c_nearest : PySem.W.codeIn K cd_nearest "nearest" = true)
    (k_nearest : PySem.W.keepIn K (.ref f_nearest) = true)
    (a_total : PySem.W.nsIn K mainGlobals "total" = some (some (.ref f_total)))
    (l_total : K.lookup f_total = some ⟨oc_total, od_total, .func (PySem.W.fnOf "total" "total" (defArgs (top 18)) (defBody (top 18)) (defScope (top 18)) .none kV_total dc_total pm_total an_total cd_total ct_total), sl_total⟩)
    (c_total : PySem.W.codeIn K cd_total "total" = true)
    (k_total : PySem.W.keepIn K (.ref f_total) = true)
    (a_median : PySem.W.nsIn K mainGlobals "median" = some (some (.ref f_median)))
    (l_median : K.lookup f_median = some ⟨oc_median, od_median, .func (PySem.W.fnOf "median" "median" (defArgs (top 19)) (defBody (top 19)) (defScope (top 19)) .none kV_median dc_median pm_median an_median cd_median ct_median), sl_median⟩)
    (c_median : PySem.W.codeIn K cd_median "median" = true)
    (k_median : PySem.W.keepIn K (.ref f_median) = true)
    (a_law_taken : PySem.W.nsIn K mainGlobals "_law_taken" = some (some (.ref f_law_taken)))
    (l_law_taken : K.lookup f_law_taken = some ⟨oc_law_taken, od_law_taken, .func (PySem.W.fnOf "_law_taken" "_law_taken" (defArgs (top 21)) (defBody (top 21)) (defScope (top 21)) .none kV_law_taken dc_law_taken pm_law_taken an_law_taken cd_law_taken ct_law_taken), sl_law_taken⟩)
    (c_law_taken : PySem.W.codeIn K cd_law_taken "_law_taken" = true)
    (k_law_taken : PySem.W.keepIn K (.ref f_law_taken) = true)
    (a_law_alike : PySem.W.nsIn K mainGlobals "_law_alike" = some (some (.ref f_law_alike)))
    (l_law_alike : K.lookup f_law_alike = some ⟨oc_law_alike, od_law_alike, .func (PySem.W.fnOf "_law_alike" "_law_alike" (defArgs (top 22)) (defBody (top 22)) (defScope (top 22)) .none kV_law_alike dc_law_alike pm_law_alike an_law_alike cd_law_alike ct_law_alike), sl_law_alike⟩)
    (c_law_alike : PySem.W.codeIn K cd_law_alike "_law_alike" = true)
    (k_law_alike : PySem.W.keepIn K (.ref f_law_alike) = true)
    (a_law_truth : PySem.W.nsIn K mainGlobals "_law_truth" = some (some (.ref f_law_truth)))
    (l_law_truth : K.lookup f_law_truth = some ⟨oc_law_truth, od_law_truth, .func (PySem.W.fnOf "_law_truth" "_law_truth" (defArgs (top 23)) (defBody (top 23)) (defScope (top 23)) .none kV_law_truth dc_law_truth pm_law_truth an_law_truth cd_law_truth ct_law_truth), sl_law_truth⟩)
    (c_law_truth : PySem.W.codeIn K cd_law_truth "_law_truth" = true)
    (k_law_truth : PySem.W.keepIn K (.ref f_law_truth) = true)
    (a_law_low : PySem.W.nsIn K mainGlobals "_law_low" = some (some (.ref f_law_low)))
    (l_law_low : K.lookup f_law_low = some ⟨oc_law_low, od_law_low, .func (PySem.W.fnOf "_law_low" "_law_low" (defArgs (top 24)) (defBody (top 24)) (defScope (top 24)) .none kV_law_low dc_law_low pm_law_low an_law_low cd_law_low ct_law_low), sl_law_low⟩)
    (c_law_low : PySem.W.codeIn K cd_law_low "_law_low" = true)
    (k_law_low : PySem.W.keepIn K (.ref f_law_low) = true)
    (a_law : PySem.W.nsIn K mainGlobals "law" = some (some (.ref f_law)))
    (l_law : K.lookup f_law = some ⟨oc_law, od_law, .func (PySem.W.fnOf "law" "law" (defArgs (top 25)) (defBody (top 25)) (defScope (top 25)) .none kV_law dc_law pm_law an_law cd_law ct_law), sl_law⟩)
    (c_law : PySem.W.codeIn K cd_law "law" = true)
    (k_law : PySem.W.keepIn K (.ref f_law) = true)
    (ga_BadNumber : PySem.W.findIn K (.ref C_BadNumber) "__getattribute__" = some (some (.builtin "BaseException.__getattribute__")))
    (gg_BadNumber : PySem.W.findIn K (.ref C_BadNumber) "__getattr__" = some none)
    (hd_BadNumber : PySem.W.hasDictIn K C_BadNumber = true)
    (ic_BadNumber : PySem.W.isClsIn K C_BadNumber = true)
    (ex_BadNumber : PySem.W.subIn K (.ref C_BadNumber) (.type "BaseException") = some true)
    (ty_BadNumber : PySem.W.typeIn K (.ref C_BadNumber) = some (.type "type"))
    (su_CoinsError_BadNumber : PySem.W.subIn K (.ref C_CoinsError) (.ref C_BadNumber) = some false)
    (su_BadNumber_BadNumber : PySem.W.subIn K (.ref C_BadNumber) (.ref C_BadNumber) = some true)
    (opq : PySem.W.nsIn K cStatics "thirdparty.any" = some none)
    (nsup : PySem.W.nsIn K mainGlobals "super" = some none)
    (xl_BadNumber : K.lookup C_BadNumber = some (excClassObj nm_BadNumber q_BadNumber C_BadNumber N_BadNumber bs_BadNumber [.ref C_CoinsError, .type "ValueError", .type "Exception", .type "BaseException", .type "object"] true sn_BadNumber sub_BadNumber ab_BadNumber col_BadNumber dd_BadNumber m0_BadNumber m1_BadNumber m2_BadNumber m3_BadNumber m5_BadNumber "ValueError.__new__"))
    (sa_BadNumber : PySem.W.findIn K (.ref C_BadNumber) "__setattr__" = some (some (.builtin "object.__setattr__")))
    (kc_BadNumber : PySem.W.keepIn K (.ref C_BadNumber) = true)
    (ve_BadNumber : PySem.W.subIn K (.ref C_BadNumber) (.type "ValueError") = some true)
    (mr_BadNumber : PySem.W.mroIn K C_BadNumber (.ref C_BadNumber) = some true)
    (ii_BadNumber : PySem.W.findIn K (.ref C_BadNumber) "__init__" = some (some (.ref fI_BadNumber)))
    (ti_BadNumber : PySem.W.typeIn K (.ref fI_BadNumber) = some (.type "function"))
    (li_BadNumber : K.lookup fI_BadNumber = some ⟨oi_BadNumber, odi_BadNumber, .func (PySem.W.ksFn "__init__" "BadNumber.__init__" (eA1 "value" ⟨6, 17, 6, 21⟩ ⟨6, 23, 6, 28⟩) [eSup [.Name "value" ⟨7, 25, 7, 30⟩] ⟨7, 8, 7, 13⟩ ⟨7, 8, 7, 15⟩ ⟨7, 8, 7, 24⟩ ⟨7, 8, 7, 31⟩ ⟨7, 8, 7, 31⟩, eSet "value" ⟨8, 8, 8, 12⟩ ⟨8, 8, 8, 18⟩ ⟨8, 21, 8, 26⟩ ⟨8, 8, 8, 26⟩] (eS1 "value") .none kVi_BadNumber dci_BadNumber pmi_BadNumber ani_BadNumber (.ref cda_BadNumber) cti_BadNumber cc_BadNumber), sli_BadNumber⟩)
    (ci_BadNumber : PySem.W.codeIn K (.ref cda_BadNumber) "BadNumber.__init__" = true)
    (ld_BadNumber : K.lookup cda_BadNumber = some ⟨ccl_BadNumber, cdd_BadNumber, .fields cvs_BadNumber, ccs_BadNumber⟩)
    (fi_BadNumber : cvs_BadNumber[2]? = some (.str file_BadNumber tf_BadNumber))
    (fe_BadNumber : ((P.main.file : Str) == file_BadNumber) = true)
    (lc_BadNumber : K.lookup cc_BadNumber = some ⟨cel_BadNumber, ceo_BadNumber, .cell (some (.ref C_BadNumber)), ces_BadNumber⟩)
    (al_BadNumber : PySem.W.ks_superIn K C_BadNumber C_BadNumber "__init__" = some (some (.builtin "ValueError.__init__")))
    (no_BadNumber_value : PySem.W.findIn K (.ref C_BadNumber) "value" = some none)
    (tp : (P.main.scope.names.lookup ("super" : Str)).isSome = false) :
    ∃ (fd : FuncData) (T : Cfg), T.K = K ∧ (∀ (s : Shared) (u : Value), BindsTo s fd ⟨[u], []⟩ [(("script" : Str), u)]) ∧ ∀ base : Heap, K.In base → base.Ns mainGlobals mg → FnG P w K mg base 32 fa fd ["script"] (spM T m_law 1) := by
  have e := hfa.symm.trans (PySem.W.mg_of X G a_law)
  have e : f_law = fa := by cases e; rfl
  subst e
  have F_is_whole := fun_mk (st := top 4) l_is_whole c_is_whole k_is_whole
  have b_is_whole := F_is_whole.binds (ps := ["value"]) fun _ _ _ _ _ _ us hl => match us, hl with | [_], _ => rfl
  have F_is_row := fun_mk (st := top 5) l_is_row c_is_row k_is_row
  have b_is_row := F_is_row.binds (ps := ["value"]) fun _ _ _ _ _ _ us hl => match us, hl with | [_], _ => rfl
  have F_reduced := fun_mk (st := top 7) l_reduced c_reduced k_reduced
  have b_reduced := F_reduced.binds (ps := ["top", "bottom"]) fun _ _ _ _ _ _ us hl => match us, hl with | [_, _], _ => rfl
  have F_is_fraction := fun_mk (st := top 8) l_is_fraction c_is_fraction k_is_fraction
  have b_is_fraction := F_is_fraction.binds (ps := ["value"]) fun _ _ _ _ _ _ us hl => match us, hl with | [_], _ => rfl
  have F_want_fraction := fun_mk (st := top 9) l_want_fraction c_want_fraction k_want_fraction
  have b_want_fraction := F_want_fraction.binds (ps := ["value"]) fun _ _ _ _ _ _ us hl => match us, hl with | [_], _ => rfl
  have F_plus := fun_mk (st := top 10) l_plus c_plus k_plus
  have b_plus := F_plus.binds (ps := ["one", "other"]) fun _ _ _ _ _ _ us hl => match us, hl with | [_, _], _ => rfl
  have F_minus := fun_mk (st := top 11) l_minus c_minus k_minus
  have b_minus := F_minus.binds (ps := ["one", "other"]) fun _ _ _ _ _ _ us hl => match us, hl with | [_, _], _ => rfl
  have F_times := fun_mk (st := top 12) l_times c_times k_times
  have b_times := F_times.binds (ps := ["one", "other"]) fun _ _ _ _ _ _ us hl => match us, hl with | [_, _], _ => rfl
  have F_over := fun_mk (st := top 13) l_over c_over k_over
  have b_over := F_over.binds (ps := ["one", "other"]) fun _ _ _ _ _ _ us hl => match us, hl with | [_, _], _ => rfl
  have F_is_less := fun_mk (st := top 14) l_is_less c_is_less k_is_less
  have b_is_less := F_is_less.binds (ps := ["one", "other"]) fun _ _ _ _ _ _ us hl => match us, hl with | [_, _], _ => rfl
  have F_floor_of := fun_mk (st := top 15) l_floor_of c_floor_of k_floor_of
  have b_floor_of := F_floor_of.binds (ps := ["one"]) fun _ _ _ _ _ _ us hl => match us, hl with | [_], _ => rfl
  have F_ceiling_of := fun_mk (st := top 16) l_ceiling_of c_ceiling_of k_ceiling_of
  have b_ceiling_of := F_ceiling_of.binds (ps := ["one"]) fun _ _ _ _ _ _ us hl => match us, hl with | [_], _ => rfl
  have F_nearest := fun_mk (st := top 17) l_nearest c_nearest k_nearest
  have b_nearest := F_nearest.binds (ps := ["one"]) fun _ _ _ _ _ _ us hl => match us, hl with | [_], _ => rfl
  have F_total := fun_mk (st := top 18) l_total c_total k_total
  have b_total := F_total.binds (ps := ["rows"]) fun _ _ _ _ _ _ us hl => match us, hl with | [_], _ => rfl
  have F_median := fun_mk (st := top 19) l_median c_median k_median
  have b_median := F_median.binds (ps := ["rows"]) fun _ _ _ _ _ _ us hl => match us, hl with | [_], _ => rfl
  have F_law_taken := fun_mk (st := top 21) l_law_taken c_law_taken k_law_taken
  have b_law_taken := F_law_taken.binds (ps := ["row", "many"]) fun _ _ _ _ _ _ us hl => match us, hl with | [_, _], _ => rfl
  have F_law_alike := fun_mk (st := top 22) l_law_alike c_law_alike k_law_alike
  have b_law_alike := F_law_alike.binds (ps := ["found", "due"]) fun _ _ _ _ _ _ us hl => match us, hl with | [_, _], _ => rfl
  have F_law_truth := fun_mk (st := top 23) l_law_truth c_law_truth k_law_truth
  have b_law_truth := F_law_truth.binds (ps := ["found", "due"]) fun _ _ _ _ _ _ us hl => match us, hl with | [_, _], _ => rfl
  have F_law_low := fun_mk (st := top 24) l_law_low c_law_low k_law_low
  have b_law_low := F_law_low.binds (ps := ["top", "bottom"]) fun _ _ _ _ _ _ us hl => match us, hl with | [_, _], _ => rfl
  have F_law := fun_mk (st := top 25) l_law c_law k_law
  have b_law := F_law.binds (ps := ["script"]) fun _ _ _ _ _ _ us hl => match us, hl with | [_], _ => rfl
  have X0 : Txt P K mg f_is_whole f_is_row f_reduced f_is_fraction f_want_fraction f_plus f_minus f_times f_over f_is_less f_floor_of f_ceiling_of f_nearest f_total f_median f_law_taken f_law_alike f_law_truth f_law_low f_law _ _ _ _ _ _ _ _ _ _ _ _ _ _ _ _ _ _ _ _ C_CoinsError C_BadNumber fI_BadNumber cda_BadNumber cc_BadNumber :=
    { n_abs := PySem.W.mg_none_of X G nb_abs,
      n_bool := PySem.W.mg_none_of X G nb_bool,
      n_int := PySem.W.mg_none_of X G nb_int,
      n_isinstance := PySem.W.mg_none_of X G nb_isinstance,
      n_len := PySem.W.mg_none_of X G nb_len,
      n_list := PySem.W.mg_none_of X G nb_list,
      n_max := PySem.W.mg_none_of X G nb_max,
      n_min := PySem.W.mg_none_of X G nb_min,
      n_range := PySem.W.mg_none_of X G nb_range,
      n_repr := PySem.W.mg_none_of X G nb_repr,
      n_str := PySem.W.mg_none_of X G nb_str,
      n_tuple := PySem.W.mg_none_of X G nb_tuple,
      g_is_whole := PySem.W.mg_of X G a_is_whole,
      k_is_whole := k_is_whole,
      F_is_whole := F_is_whole,
      b_is_whole := b_is_whole,
      g_is_row := PySem.W.mg_of X G a_is_row,
      k_is_row := k_is_row,
      F_is_row := F_is_row,
      b_is_row := b_is_row,
      g_reduced := PySem.W.mg_of X G a_reduced,
      k_reduced := k_reduced,
      F_reduced := F_reduced,
      b_reduced := b_reduced,
      g_is_fraction := PySem.W.mg_of X G a_is_fraction,
      k_is_fraction := k_is_fraction,
      F_is_fraction := F_is_fraction,
      b_is_fraction := b_is_fraction,
      g_want_fraction := PySem.W.mg_of X G a_want_fraction,
      k_want_fraction := k_want_fraction,
      F_want_fraction := F_want_fraction,
      b_want_fraction := b_want_fraction,
      g_plus := PySem.W.mg_of X G a_plus,
      k_plus := k_plus,
      F_plus := F_plus,
      b_plus := b_plus,
      g_minus := PySem.W.mg_of X G a_minus,
      k_minus := k_minus,
      F_minus := F_minus,
      b_minus := b_minus,
      g_times := PySem.W.mg_of X G a_times,
      k_times := k_times,
      F_times := F_times,
      b_times := b_times,
      g_over := PySem.W.mg_of X G a_over,
      k_over := k_over,
      F_over := F_over,
      b_over := b_over,
      g_is_less := PySem.W.mg_of X G a_is_less,
      k_is_less := k_is_less,
      F_is_less := F_is_less,
      b_is_less := b_is_less,
      g_floor_of := PySem.W.mg_of X G a_floor_of,
      k_floor_of := k_floor_of,
      F_floor_of := F_floor_of,
      b_floor_of := b_floor_of,
      g_ceiling_of := PySem.W.mg_of X G a_ceiling_of,
      k_ceiling_of := k_ceiling_of,
      F_ceiling_of := F_ceiling_of,
      b_ceiling_of := b_ceiling_of,
      g_nearest := PySem.W.mg_of X G a_nearest,
      k_nearest := k_nearest,
      F_nearest := F_nearest,
      b_nearest := b_nearest,
      g_total := PySem.W.mg_of X G a_total,
      k_total := k_total,
      F_total := F_total,
      b_total := b_total,
      g_median := PySem.W.mg_of X G a_median,
      k_median := k_median,
      F_median := F_median,
      b_median := b_median,
      g_law_taken := PySem.W.mg_of X G a_law_taken,
      k_law_taken := k_law_taken,
      F_law_taken := F_law_taken,
      b_law_taken := b_law_taken,
      g_law_alike := PySem.W.mg_of X G a_law_alike,
      k_law_alike := k_law_alike,
      F_law_alike := F_law_alike,
      b_law_alike := b_law_alike,
      g_law_truth := PySem.W.mg_of X G a_law_truth,
      k_law_truth := k_law_truth,
      F_law_truth := F_law_truth,
      b_law_truth := b_law_truth,
      g_law_low := PySem.W.mg_of X G a_law_low,
      k_law_low := k_law_low,
      F_law_low := F_law_low,
      b_law_low := b_law_low,
      g_law := PySem.W.mg_of X G a_law,
      k_law := k_law,
      F_law := F_law,
      b_law := b_law,
      gc_BadNumber := PySem.W.mg_of X G a_BadNumber,
      x_BadNumber := ⟨ga_BadNumber, gg_BadNumber, ex_BadNumber, hd_BadNumber⟩,
      isa_BadNumber := (isa_cons (exm_of ex_BadNumber ic_BadNumber ty_BadNumber su_CoinsError_BadNumber) (by decide) (isa_cons (exm_of ex_BadNumber ic_BadNumber ty_BadNumber su_BadNumber_BadNumber) (by decide) isa_nil)),
      e_BadNumber := { cls := ⟨_, _, _, _, _, _, _, _, _, _, _, _, _, _, _, xl_BadNumber, by first | rfl | kernel_rfl⟩, sa := sa_BadNumber, kC := kc_BadNumber, exC := ex_BadNumber, veC := ve_BadNumber, tyC := ty_BadNumber, suC := mr_BadNumber, opq := opq, sup := PySem.W.mg_none_of X G nsup, along := al_BadNumber, code := ⟨_, _, _, _, _, _, ld_BadNumber, fi_BadNumber, fe_BadNumber⟩, cell := ⟨_, _, _, lc_BadNumber⟩, top := tp },
      i_BadNumber := { iC := ii_BadNumber, tC := ti_BadNumber, fn := ⟨_, _, _, _, _, _, _, _, li_BadNumber, ci_BadNumber⟩ },
      o_BadNumber_value := no_BadNumber_value }
  exact ⟨_, tc K C_CoinsError C_BadNumber, rfl, fun s v => .of_eq rfl, fun base _ _ => ok_law X0⟩
end Prog
open PySem PySem.W PyProof.Rows
set_option maxHeartbeats 0 in
theorem PySem.Challenge.cw_coinspaidout_k10_whole_fractions_holds : PySem.Challenge.rw_coinspaidout_k10_whole_fractions.Holds := by
  w_on; o_law; k_head; (case hw => w_witness2)
  k_fill
  refine Mir.walk_ofM (l := PySem.Challenge.rw_coinspaidout_k10_whole_fractions) (n := 63) (k := 32) (f := Prog.m_law) (x := "script") rfl (by decide) rfl ⟨rfl, by decide, by decide⟩ (fun w h Y => PySem.W.kIn_of Y) ?F Prog.law_true
  case F =>
    intro w mg fa h KX G hmg
    refine' Prog.all_mk KX G hmg ?nb_abs ?nb_bool ?nb_int ?nb_isinstance ?nb_len ?nb_list ?nb_max ?nb_min ?nb_range ?nb_repr ?nb_str ?nb_tuple ?a_CoinsError ?a_BadNumber ?a_is_whole ?l_is_whole ?c_is_whole ?k_is_whole ?a_is_row ?l_is_row ?c_is_row ?k_is_row ?a_reduced ?l_reduced ?c_reduced ?k_reduced ?a_is_fraction ?l_is_fraction ?c_is_fraction ?k_is_fraction ?a_want_fraction ?l_want_fraction ?c_want_fraction ?k_want_fraction ?a_plus ?l_plus ?c_plus ?k_plus ?a_minus ?l_minus ?c_minus ?k_minus ?a_times ?l_times ?c_times ?k_times ?a_over ?l_over ?c_over ?k_over ?a_is_less ?l_is_less ?c_is_less ?k_is_less ?a_floor_of ?l_floor_of ?c_floor_of ?k_floor_of ?a_ceiling_of ?l_ceiling_of ?c_ceiling_of ?k_ceiling_of ?a_nearest ?l_nearest ?c_nearest ?k_nearest ?a_total ?l_total ?c_total ?k_total ?a_median ?l_median ?c_median ?k_median ?a_law_taken ?l_law_taken ?c_law_taken ?k_law_taken ?a_law_alike ?l_law_alike ?c_law_alike ?k_law_alike ?a_law_truth ?l_law_truth ?c_law_truth ?k_law_truth ?a_law_low ?l_law_low ?c_law_low ?k_law_low ?a_law ?l_law ?c_law ?k_law ?ga_BadNumber ?gg_BadNumber ?hd_BadNumber ?ic_BadNumber ?ex_BadNumber ?ty_BadNumber ?su_CoinsError_BadNumber ?su_BadNumber_BadNumber ?opq ?nsup ?xl_BadNumber ?sa_BadNumber ?kc_BadNumber ?ve_BadNumber ?mr_BadNumber ?ii_BadNumber ?ti_BadNumber ?li_BadNumber ?ci_BadNumber ?ld_BadNumber ?fi_BadNumber ?fe_BadNumber ?lc_BadNumber ?al_BadNumber ?no_BadNumber_value ?tp
    (case nb_abs => k_is)
    (case nb_bool => k_is)
    (case nb_int => k_is)
    (case nb_isinstance => k_is)
    (case nb_len => k_is)
    (case nb_list => k_is)
    (case nb_max => k_is)
    (case nb_min => k_is)
    (case nb_range => k_is)
    (case nb_repr => k_is)
    (case nb_str => k_is)
    (case nb_tuple => k_is)
    (case a_CoinsError => k_is)
    (case a_BadNumber => k_is)
    (case a_is_whole => k_is)
    (case l_is_whole => k_is)
    (case c_is_whole => k_is)
    (case k_is_whole => k_is)
    (case a_is_row => k_is)
    (case l_is_row => k_is)
    (case c_is_row => k_is)
    (case k_is_row => k_is)
    (case a_reduced => k_is)
    (case l_reduced => k_is)
    (case c_reduced => k_is)
    (case k_reduced => k_is)
    (case a_is_fraction => k_is)
    (case l_is_fraction => k_is)
    (case c_is_fraction => k_is)
    (case k_is_fraction => k_is)
    (case a_want_fraction => k_is)
    (case l_want_fraction => k_is)
    (case c_want_fraction => k_is)
    (case k_want_fraction => k_is)
    (case a_plus => k_is)
    (case l_plus => k_is)
    (case c_plus => k_is)
    (case k_plus => k_is)
    (case a_minus => k_is)
    (case l_minus => k_is)
    (case c_minus => k_is)
    (case k_minus => k_is)
    (case a_times => k_is)
    (case l_times => k_is)
    (case c_times => k_is)
    (case k_times => k_is)
    (case a_over => k_is)
    (case l_over => k_is)
    (case c_over => k_is)
    (case k_over => k_is)
    (case a_is_less => k_is)
    (case l_is_less => k_is)
    (case c_is_less => k_is)
    (case k_is_less => k_is)
    (case a_floor_of => k_is)
    (case l_floor_of => k_is)
    (case c_floor_of => k_is)
    (case k_floor_of => k_is)
    (case a_ceiling_of => k_is)
    (case l_ceiling_of => k_is)
    (case c_ceiling_of => k_is)
    (case k_ceiling_of => k_is)
    (case a_nearest => k_is)
    (case l_nearest => k_is)
    (case c_nearest => k_is)
    (case k_nearest => k_is)
    (case a_total => k_is)
    (case l_total => k_is)
    (case c_total => k_is)
    (case k_total => k_is)
    (case a_median => k_is)
    (case l_median => k_is)
    (case c_median => k_is)
    (case k_median => k_is)
    (case a_law_taken => k_is)
    (case l_law_taken => k_is)
    (case c_law_taken => k_is)
    (case k_law_taken => k_is)
    (case a_law_alike => k_is)
    (case l_law_alike => k_is)
    (case c_law_alike => k_is)
    (case k_law_alike => k_is)
    (case a_law_truth => k_is)
    (case l_law_truth => k_is)
    (case c_law_truth => k_is)
    (case k_law_truth => k_is)
    (case a_law_low => k_is)
    (case l_law_low => k_is)
    (case c_law_low => k_is)
    (case k_law_low => k_is)
    (case a_law => k_is)
    (case l_law => k_is)
    (case c_law => k_is)
    (case k_law => k_is)
    (case ga_BadNumber => k_is)
    (case gg_BadNumber => k_is)
    (case hd_BadNumber => k_is)
    (case ic_BadNumber => k_is)
    (case ex_BadNumber => k_is)
    (case ty_BadNumber => k_is)
    (case su_CoinsError_BadNumber => first | rfl | k_is)
    (case su_BadNumber_BadNumber => first | rfl | k_is)
    (case opq => k_is)
    (case nsup => k_is)
    (case xl_BadNumber => k_is)
    (case sa_BadNumber => k_is)
    (case kc_BadNumber => k_is)
    (case ve_BadNumber => k_is)
    (case mr_BadNumber => k_is)
    (case ii_BadNumber => k_is)
    (case ti_BadNumber => k_is)
    (case li_BadNumber => k_is)
    (case ci_BadNumber => k_is)
    (case ld_BadNumber => k_is)
    (case fi_BadNumber => rfl)
    (case fe_BadNumber => first | rfl | decide +kernel)
    (case lc_BadNumber => k_is)
    (case al_BadNumber => first | ks_is | k_is | rfl)
    (case no_BadNumber_value => k_is)
    (case tp => first | rfl | decide +kernel)
#print axioms PySem.Challenge.cw_coinspaidout_k10_whole_fractions_holds
