import PyProof.Rows.All
import Wide.All
import OpenK.AllK
import Wide.FinOn
import HandS.ForMost
import HandS.Exc
import HandS.TryOnly
import HandS.TryMany
import HandS.ExcOwn
import HandS.IsInst
import HandS.Deep
import HandS.WordsExc
import HandS.TupAny
import HandS.TupMul
import HandS.Conv
import HandS.SortInts
import HandS.TupLen
import HandS.Zip
import HandS.Style
import HandS.Small
import HandS.ExcField
import KE.KExcSuper
import HandS.More
import HandS.ExcInit
import KE.KIsAll
import KE.KTryMore
import HandS.ExcIs
import PySem.Challenge.RW_coinspaidout_k09_errors
set_option Elab.async false
set_option linter.all false
set_option maxRecDepth 100000
/-! Mir1: plain data D, the mirror's state, the relation to the machine's state, the readings of mirrors. -/
namespace Mir
open PySem PySem.Spec PyProof.Rows L2

/-- plain data -/
inductive D where
  | non | bl (b : Bool) | int (i : Int) | str (s : Str)
  | lst (ds : List D) | tup (ds : List D) | dic (t : Bool) (kvs : List (D × D))
  | ins (c : Str) (fs : List (Str × D)) | cel (n : Nat) | scr (ns : List Int)

/-- a slot: unset, a value, a list of its own, a dict of its own, an instance of its own, a caught exception -/
inductive Sl where
  | un | va (d : D) | ol (ds : List D) | od (t : Bool) (kvs : List (D × D)) | oi (c : Str) (fs : List (Str × D)) | xc (c : Str) (fs : List (Str × D))
def Sl.live : Sl → Bool
  | .ol _ => true
  | .od _ _ => true
  | .oi _ _ => true
  | _ => false
/-- a cell: a list or an instance that is changed through references; un: none looks at it now -/
inductive Cl where
  | un | l (ds : List D) | i (c : Str) (fs : List (Str × D))
def Cl.vis : Cl → Bool
  | .un => false
  | _ => true
structure MS where
  env : List Sl
  sto : List Cl
/-- an outcome -/
inductive R (α : Type) where
  | ok (a : α) (s : MS) | ex (c : Str) (fs : List (Str × D)) (s : MS) | st
def R.bind {α β : Type} (r : R α) (f : α → MS → R β) : R β := match r with
  | .ok a s => f a s
  | .ex c fs s => .ex c fs s
  | .st => .st
/-- where a statement ends -/
inductive Fl where
  | nx | bk | ct | rt (d : D)
abbrev Exp := MS → R D
abbrev Exps := MS → R (List D)
abbrev Tst := MS → R Bool
abbrev Stm := MS → R Fl

/-- what is told of the text, of the handled exception, of the wish about exceptions -/
structure Cfg where
  K : PySem.W.Frag
  cls : Str → Option Addr
structure Zu extends Cfg where
  Z : Addr → Value → Option Addr → Prop
structure Su extends Zu where
  W : WX
/-- the frozen part, the part of others, the cells' addresses -/
structure Bd where
  G : Hp
  F : Hp
  ρ : List Addr
  L : Addr → Bool
structure Bd.le (B B' : Bd) : Prop where
  g : ∀ a u, B.G a = some u → B'.G a = some u
  f : B'.F = B.F
  l : B'.L = B.L
  r : ∀ (n : Nat) (a : Addr), B.ρ[n]? = some a → B'.ρ[n]? = some a
  n : ∀ a ∈ B'.ρ, a ∈ B.ρ ∨ B.F a = none
theorem Bd.le.rfl' {B : Bd} : B.le B := ⟨fun _ _ h => h, rfl, rfl, fun _ _ h => h, fun _ h => .inl h⟩
theorem Bd.le.trans {B B1 B2 : Bd} (a : B.le B1) (b : B1.le B2) : B.le B2 :=
  ⟨fun x u h => b.g x u (a.g x u h), b.f.trans a.f, b.l.trans a.l, fun n x h => b.r n x (a.r n x h), fun x h => (b.n x h).elim (a.n x) fun q => .inr (by rw [← a.f]; exact q)⟩

/-- a dict may be locked while it is walked -/
def dicO : HO → Bool
  | .dK _ => true
  | .dT _ => true
  | _ => false
def tupO : HO → Bool
  | .tup _ => true
  | _ => false
def GOk (L : Addr → Bool) (H : Hp) (a : Addr) (o : HO) : Prop := (L a = false ∧ H a = some o) ∨ (L a = true ∧ dicO o = true ∧ ∃ ob, H a = some (.frz ob o))
theorem GOk.ex {L : Addr → Bool} {H : Hp} {a : Addr} {o : HO} (h : GOk L H a o) (n : dicO o = false) : H a = some o := h.elim (fun q => q.2) fun q => by rw [n] at q; cases q.2.1
theorem GOk.has {L : Addr → Bool} {H : Hp} {a : Addr} {o : HO} (h : GOk L H a o) : ∃ u, H a = some u := h.elim (fun q => ⟨_, q.2⟩) fun q => let ⟨_, _, _, e⟩ := q; ⟨_, e⟩
theorem GOk.mono {L : Addr → Bool} {H H' : Hp} {a : Addr} {o : HO} (h : GOk L H a o) (k : ∀ u, H a = some u → H' a = some u) : GOk L H' a o :=
  h.elim (fun q => .inl ⟨q.1, k _ q.2⟩) fun q => .inr ⟨q.1, q.2.1, let ⟨ob, e⟩ := q.2.2; ⟨ob, k _ e⟩⟩
/-- a key of plain data -/
def kD : Key → D
  | .inl i => .int i
  | .inr s => .str s

mutual
inductive Rep (T : Cfg) (B : Bd) : D → V → Prop
  | non : Rep T B .non .non
  | bl (b : Bool) : Rep T B (.bl b) (.bl b)
  | int (i : Int) : Rep T B (.int i) (.int i)
  | str (s : Str) : Rep T B (.str s) (.str s)
  | lst {ds : List D} {a : Addr} {xs : List V} : B.G a = some (.lst xs) → RepL T B ds xs → Rep T B (.lst ds) (.ref a)
  | scr {ns : List Int} {a : Addr} : SqL T.K B.G a (ns.map V.int) → Rep T B (.scr ns) (.ref a)
  | tup {ds : List D} {a : Addr} {xs : List V} : B.G a = some (.tup xs) → RepL T B ds xs → Rep T B (.tup ds) (.ref a)
  | dic {kvs : List (D × D)} {a : Addr} {ks : List (Key × V)} : B.G a = some (.dK ks) → RepK T B kvs ks → Rep T B (.dic false kvs) (.ref a)
  | dit {kvs : List (D × D)} {a : Addr} {ks : List (List Key × V)} : B.G a = some (.dT ks) → RepT T B kvs ks → Rep T B (.dic true kvs) (.ref a)
  | ins {c : Str} {fs : List (Str × D)} {a C dx : Addr} {vs : List (Str × V)} : T.cls c = some C → B.G a = some (.ins C dx vs) → RepF T B fs vs → Rep T B (.ins c fs) (.ref a)
  | cel {n : Nat} {a : Addr} : B.ρ[n]? = some a → Rep T B (.cel n) (.ref a)
inductive RepL (T : Cfg) (B : Bd) : List D → List V → Prop
  | nil : RepL T B [] []
  | cons {d : D} {ds : List D} {v : V} {vs : List V} : Rep T B d v → RepL T B ds vs → RepL T B (d :: ds) (v :: vs)
inductive RepF (T : Cfg) (B : Bd) : List (Str × D) → List (Str × V) → Prop
  | nil : RepF T B [] []
  | cons {f : Str} {d : D} {ds : List (Str × D)} {v : V} {vs : List (Str × V)} : Rep T B d v → RepF T B ds vs → RepF T B ((f, d) :: ds) ((f, v) :: vs)
inductive RepK (T : Cfg) (B : Bd) : List (D × D) → List (Key × V) → Prop
  | nil : RepK T B [] []
  | cons {k : Key} {d : D} {ds : List (D × D)} {v : V} {vs : List (Key × V)} : Rep T B d v → RepK T B ds vs → RepK T B ((kD k, d) :: ds) ((k, v) :: vs)
inductive RepT (T : Cfg) (B : Bd) : List (D × D) → List (List Key × V) → Prop
  | nil : RepT T B [] []
  | cons {k : List Key} {d : D} {ds : List (D × D)} {v : V} {vs : List (List Key × V)} : Rep T B d v → RepT T B ds vs → RepT T B ((.tup (k.map kD), d) :: ds) ((k, v) :: vs)
end

/-- the frozen part and the cells alone -/
structure Bd.lg (B B' : Bd) : Prop where
  g : ∀ a u, B.G a = some u → B'.G a = some u
  r : ∀ (n : Nat) (a : Addr), B.ρ[n]? = some a → B'.ρ[n]? = some a
theorem Bd.le.lg {B B' : Bd} (h : B.le B') : B.lg B' := ⟨h.g, h.r⟩
section
variable {T : Cfg} {B B' : Bd}
theorem SqL.lg (h : B.lg B') {a : Addr} {xs : List V} {K : PySem.W.Frag} (q : SqL K B.G a xs) : SqL K B'.G a xs := q.elim (fun r => .inl (r.elim (fun e => .inl (h.g _ _ e)) fun e => .inr (let ⟨o, e⟩ := e; ⟨o, h.g _ _ e⟩))) .inr
theorem SqL.le (h : B.le B') {a : Addr} {xs : List V} {K : PySem.W.Frag} (q : SqL K B.G a xs) : SqL K B'.G a xs := SqL.lg h.lg q
theorem SqT.le (h : B.le B') {a : Addr} {xs : List V} {K : PySem.W.Frag} (q : SqT K B.G a xs) : SqT K B'.G a xs := q.elim (fun r => .inl (r.elim (fun e => .inl (h.g _ _ e)) fun e => .inr (let ⟨o, e⟩ := e; ⟨o, h.g _ _ e⟩))) .inr
mutual
theorem Rep.lg (h : B.lg B') : ∀ {d : D} {v : V}, Rep T B d v → Rep T B' d v
  | _, _, .non => .non
  | _, _, .bl b => .bl b
  | _, _, .int i => .int i
  | _, _, .str s => .str s
  | _, _, .lst q r => .lst (h.g _ _ q) (r.lg h)
  | _, _, .scr q => .scr (SqL.lg h q)
  | _, _, .tup q r => .tup (h.g _ _ q) (r.lg h)
  | _, _, .dic q r => .dic (h.g _ _ q) (r.lg h)
  | _, _, .dit q r => .dit (h.g _ _ q) (r.lg h)
  | _, _, .ins c q r => .ins c (h.g _ _ q) (r.lg h)
  | _, _, .cel q => .cel (h.r _ _ q)
theorem RepL.lg (h : B.lg B') : ∀ {ds : List D} {vs : List V}, RepL T B ds vs → RepL T B' ds vs
  | _, _, .nil => .nil
  | _, _, .cons a b => .cons (a.lg h) (b.lg h)
theorem RepF.lg (h : B.lg B') : ∀ {ds : List (Str × D)} {vs : List (Str × V)}, RepF T B ds vs → RepF T B' ds vs
  | _, _, .nil => .nil
  | _, _, .cons a b => .cons (a.lg h) (b.lg h)
theorem RepK.lg (h : B.lg B') : ∀ {ds : List (D × D)} {vs : List (Key × V)}, RepK T B ds vs → RepK T B' ds vs
  | _, _, .nil => .nil
  | _, _, .cons a b => .cons (a.lg h) (b.lg h)
theorem RepT.lg (h : B.lg B') : ∀ {ds : List (D × D)} {vs : List (List Key × V)}, RepT T B ds vs → RepT T B' ds vs
  | _, _, .nil => .nil
  | _, _, .cons a b => .cons (a.lg h) (b.lg h)
end
theorem Rep.le (h : B.le B') {d : D} {v : V} (q : Rep T B d v) : Rep T B' d v := q.lg h.lg
theorem RepL.le (h : B.le B') {ds : List D} {vs : List V} (q : RepL T B ds vs) : RepL T B' ds vs := q.lg h.lg
theorem RepF.le (h : B.le B') {ds : List (Str × D)} {vs : List (Str × V)} (q : RepF T B ds vs) : RepF T B' ds vs := q.lg h.lg
theorem RepK.le (h : B.le B') {ds : List (D × D)} {vs : List (Key × V)} (q : RepK T B ds vs) : RepK T B' ds vs := q.lg h.lg
theorem RepT.le (h : B.le B') {ds : List (D × D)} {vs : List (List Key × V)} (q : RepT T B ds vs) : RepT T B' ds vs := q.lg h.lg
end

/-- how a dict of plain data stands -/
def DicAt (T : Cfg) (B : Bd) (H : Hp) (a : Addr) (t : Bool) (kvs : List (D × D)) : Prop :=
  (t = false ∧ ∃ ks, H a = some (.dK ks) ∧ RepK T B kvs ks) ∨ (t = true ∧ ∃ ks, H a = some (.dT ks) ∧ RepT T B kvs ks)
def XdOk (T : Cfg) (B : Bd) (d : Option Addr) (fs : List (Str × D)) : Prop :=
  (fs = [] ∧ d = none) ∨ ∃ dx vs, d = some dx ∧ B.G dx = some (.xd vs) ∧ RepF T B fs vs
def SlOk (T : Zu) (B : Bd) (H : Hp) : Sl → Option (Option V) → Prop
  | .un, _ => True
  | .va d, o => ∃ v, o = some (some v) ∧ Rep T.toCfg B d v
  | .ol ds, o => ∃ a xs, o = some (some (.ref a)) ∧ H a = some (.lst xs) ∧ RepL T.toCfg B ds xs
  | .od t kvs, o => ∃ a, o = some (some (.ref a)) ∧ DicAt T.toCfg B H a t kvs
  | .oi c fs, o => ∃ a C dx vs, o = some (some (.ref a)) ∧ T.cls c = some C ∧ H a = some (.ins C dx vs) ∧ RepF T.toCfg B fs vs
  | .xc c fs, o => ∃ a C d, o = some (some (.ref a)) ∧ T.cls c = some C ∧ T.Z a (.ref C) d ∧ XdOk T.toCfg B d fs
def CeOk (T : Cfg) (B : Bd) (H : Hp) : Cl → Addr → Prop
  | .un, a => ∃ u, H a = some u ∧ tupO u = false
  | .l ds, a => ∃ xs, H a = some (.lst xs) ∧ RepL T B ds xs
  | .i c fs, a => ∃ C dx vs, T.cls c = some C ∧ H a = some (.ins C dx vs) ∧ RepF T B fs vs

/-- the slot i owns the object at a -/
def Owns (S : MS) (σ : L2.St) (i : Nat) (a : Addr) : Prop := (∃ s, S.env[i]? = some s ∧ s.live = true) ∧ σ[i]? = some (some (.ref a))
structure Rl (T : Zu) (S : MS) (σ : L2.St) (H : Hp) (B : Bd) : Prop where
  ln : σ.length = S.env.length
  g : ∀ a o, B.G a = some o → GOk B.L H a o
  lk : ∀ a, B.L a = true → ∃ o, B.G a = some o
  f : ∀ a o, B.F a = some o → H a = some o ∧ (B.G a = none ∨ tupO o = true)
  sl : ∀ (i : Nat) (s : Sl), S.env[i]? = some s → SlOk T B H s (σ[i]? : Option (Option V))
  cl : S.sto.length = B.ρ.length
  ce : ∀ (n : Nat) (c : Cl) (a : Addr), S.sto[n]? = some c → B.ρ[n]? = some a → CeOk T.toCfg B H c a
  fs : ∀ i a, Owns S σ i a → B.G a = none ∧ B.F a = none ∧ a ∉ B.ρ
  fc : ∀ (n : Nat) (c : Cl) (a : Addr), S.sto[n]? = some c → B.ρ[n]? = some a → B.G a = none ∧ (c.vis = true → B.F a = none)
  ds : ∀ i j a, Owns S σ i a → Owns S σ j a → i = j
  dc : B.ρ.Nodup

theorem SlOk.lg {T : Zu} {B B' : Bd} {H : Hp} (h : B.lg B') : ∀ {s : Sl} {o : Option (Option V)}, SlOk T B H s o → SlOk T B' H s o
  | .un, _, _ => trivial
  | .va _, _, ⟨v, e, r⟩ => ⟨v, e, r.lg h⟩
  | .ol _, _, ⟨a, xs, e, k, r⟩ => ⟨a, xs, e, k, r.lg h⟩
  | .od _ _, _, ⟨a, e, .inl ⟨z, ks, k, r⟩⟩ => ⟨a, e, .inl ⟨z, ks, k, r.lg h⟩⟩
  | .od _ _, _, ⟨a, e, .inr ⟨z, ks, k, r⟩⟩ => ⟨a, e, .inr ⟨z, ks, k, r.lg h⟩⟩
  | .oi _ _, _, ⟨a, C, dx, vs, e, c, k, r⟩ => ⟨a, C, dx, vs, e, c, k, r.lg h⟩
  | .xc _ _, _, ⟨a, C, d, e, c, k, .inl z⟩ => ⟨a, C, d, e, c, k, .inl z⟩
  | .xc _ _, _, ⟨a, C, d, e, c, k, .inr ⟨dx, vs, z, q, r⟩⟩ => ⟨a, C, d, e, c, k, .inr ⟨dx, vs, z, h.g _ _ q, r.lg h⟩⟩
theorem SlOk.le {T : Zu} {B B' : Bd} {H : Hp} (h : B.le B') {s : Sl} {o : Option (Option V)} (q : SlOk T B H s o) : SlOk T B' H s o := q.lg h.lg
theorem CeOk.lg {T : Cfg} {B B' : Bd} {H : Hp} (h : B.lg B') : ∀ {s : Cl} {a : Addr}, CeOk T B H s a → CeOk T B' H s a
  | .un, _, h => h
  | .l _, _, ⟨xs, k, r⟩ => ⟨xs, k, r.lg h⟩
  | .i _ _, _, ⟨C, dx, vs, c, k, r⟩ => ⟨C, dx, vs, c, k, r.lg h⟩
theorem CeOk.le {T : Cfg} {B B' : Bd} {H : Hp} (h : B.le B') {s : Cl} {a : Addr} (q : CeOk T B H s a) : CeOk T B' H s a := q.lg h.lg
/-- what a slot leans on -/
theorem SlOk.heap {T : Zu} {B : Bd} {H H' : Hp} {s : Sl} {o : Option (Option V)} (x : SlOk T B H s o) (k : ∀ a u, s.live = true → o = some (some (.ref a)) → H a = some u → H' a = some u) : SlOk T B H' s o := by
  cases s with
  | un => trivial
  | va d => exact x
  | ol ds => obtain ⟨a, xs, e, q, r⟩ := x; exact ⟨a, xs, e, k a _ rfl e q, r⟩
  | od t kvs =>
    obtain ⟨a, e, q⟩ := x
    refine ⟨a, e, ?_⟩
    rcases q with ⟨z, ks, q, r⟩ | ⟨z, ks, q, r⟩
    · exact .inl ⟨z, ks, k a _ rfl e q, r⟩
    · exact .inr ⟨z, ks, k a _ rfl e q, r⟩
  | oi c fs => obtain ⟨a, C, dx, vs, e, c, q, r⟩ := x; exact ⟨a, C, dx, vs, e, c, k a _ rfl e q, r⟩
  | xc c fs => exact x
theorem CeOk.heap {T : Cfg} {B : Bd} {H H' : Hp} {s : Cl} {a : Addr} (x : CeOk T B H s a) (k : ∀ u, H a = some u → H' a = some u) : CeOk T B H' s a := by
  cases s with
  | un => obtain ⟨u, q, r⟩ := x; exact ⟨u, k _ q, r⟩
  | l ds => obtain ⟨xs, q, r⟩ := x; exact ⟨xs, k _ q, r⟩
  | i c fs => obtain ⟨C, dx, vs, c, q, r⟩ := x; exact ⟨C, dx, vs, c, k _ q, r⟩

section
variable {T : Zu} {S : MS} {σ : L2.St} {H : Hp} {B : Bd}
/-- a new object joins the frozen part -/
def Bd.add (B : Bd) (p : Addr) (o : HO) : Bd := { B with G := upd B.G p o }
theorem Bd.le_add {B : Bd} {p : Addr} {o : HO} (h : B.G p = none) : B.le (B.add p o) := by
  refine ⟨fun a u r => ?_, rfl, rfl, fun _ _ r => r, fun _ h => .inl h⟩
  show upd B.G p o a = _
  rw [upd_ne (fun z => by rw [z, h] at r; cases r)]
  exact r
theorem Owns.lv (r : Rl T S σ H B) {i : Nat} {a : Addr} (h : Owns S σ i a) : ∃ u, H a = some u := by
  obtain ⟨⟨s, e, l⟩, q⟩ := h
  have x := r.sl i s e
  rw [q] at x
  cases s with
  | un => cases l
  | va d => cases l
  | xc c fs => cases l
  | ol ds => obtain ⟨a', xs, e', k, _⟩ := x; cases e'; exact ⟨_, k⟩
  | od t kvs => obtain ⟨a', e', ⟨_, ks, k, _⟩ | ⟨_, ks, k, _⟩⟩ := x <;> (cases e'; exact ⟨_, k⟩)
  | oi c fs => obtain ⟨a', C, dx, vs, e', _, k, _⟩ := x; cases e'; exact ⟨_, k⟩
theorem Rl.cellT (r : Rl T S σ H B) {a : Addr} (h : a ∈ B.ρ) : ∃ (n : Nat) (c : Cl) (u : HO), S.sto[n]? = some c ∧ B.ρ[n]? = some a ∧ H a = some u ∧ tupO u = false := by
  obtain ⟨n, hn, e⟩ := List.getElem_of_mem h
  have hs : n < S.sto.length := by rw [r.cl]; exact hn
  have e1 := List.getElem?_eq_getElem hs
  have e2 : B.ρ[n]? = some a := by rw [List.getElem?_eq_getElem hn, e]
  have x := r.ce n S.sto[n] a e1 e2
  cases h : S.sto[n] with
  | un => rw [h] at x e1; obtain ⟨u, k, q⟩ := x; exact ⟨n, _, u, e1, e2, k, q⟩
  | l ds => rw [h] at x e1; obtain ⟨xs, k, _⟩ := x; exact ⟨n, _, _, e1, e2, k, rfl⟩
  | i c fs => rw [h] at x e1; obtain ⟨C, dx, vs, _, k, _⟩ := x; exact ⟨n, _, _, e1, e2, k, rfl⟩
theorem Rl.cellv (r : Rl T S σ H B) {a : Addr} (h : a ∈ B.ρ) : ∃ u, H a = some u := let ⟨_, _, u, _, _, k, _⟩ := r.cellT h; ⟨u, k⟩
theorem Rl.cellG (r : Rl T S σ H B) {a : Addr} (h : a ∈ B.ρ) : B.G a = none := let ⟨n, c, _, e1, e2, _, _⟩ := r.cellT h; (r.fc n c a e1 e2).1
theorem Rl.lno (r : Rl T S σ H B) {a : Addr} (h : B.G a = none) : B.L a = false := by
  cases e : B.L a with
  | false => rfl
  | true => obtain ⟨o, q⟩ := r.lk a e; rw [h] at q; cases q
theorem Rl.alloc (r : Rl T S σ H B) {p : Addr} (hp : H p = none) (o : HO) : Rl T S σ (upd H p o) (B.add p o) := by
  have gp : B.G p = none := by
    cases e : B.G p with
    | none => rfl
    | some u => obtain ⟨_, q⟩ := (r.g p u e).has; rw [q] at hp; cases hp
  have fp : B.F p = none := by
    cases e : B.F p with
    | none => rfl
    | some u => rw [(r.f p u e).1] at hp; cases hp
  have ne : ∀ {a u}, H a = some u → a ≠ p := fun e z => by rw [z, hp] at e; cases e
  have up : ∀ {a u}, H a = some u → upd H p o a = some u := fun e => by rw [upd_ne (ne e)]; exact e
  have le := Bd.le_add (o := o) gp
  refine ⟨r.ln, fun a u e => ?_, fun a e => ?_, fun a u e => ?_, fun i s e => ?_, r.cl, fun n c a e1 e2 => ?_, fun i a h => ?_, fun n c a e1 e2 => ?_, r.ds, r.dc⟩
  · by_cases z : a = p
    · subst z
      have e' : upd B.G a o a = some u := e
      rw [upd_same] at e'; cases e'; exact .inl ⟨r.lno gp, upd_same⟩
    · have e' : upd B.G p o a = some u := e
      rw [upd_ne z] at e'; exact (r.g a u e').mono fun _ => up
  · obtain ⟨u, q⟩ := r.lk a e
    exact ⟨u, le.g a u q⟩
  · obtain ⟨h1, h2⟩ := r.f a u e
    exact ⟨up h1, by show upd B.G p o a = none ∨ _; rw [upd_ne (ne h1)]; exact h2⟩
  · exact ((r.sl i s e).le le).heap fun a u _ _ k => up k
  · exact ((r.ce n c a e1 e2).le le).heap fun u k => up k
  · obtain ⟨h1, h2⟩ := r.fs i a h
    obtain ⟨u, k⟩ := Owns.lv r h
    exact ⟨by show upd B.G p o a = none; rw [upd_ne (ne k)]; exact h1, h2⟩
  · obtain ⟨h1, h2⟩ := r.fc n c a e1 e2
    obtain ⟨u, k⟩ := r.cellv (List.mem_of_getElem? e2)
    exact ⟨by show upd B.G p o a = none; rw [upd_ne (ne k)]; exact h1, h2⟩
/-- an object that nobody looks at is laid beside (an own dict, an exception's object) -/
theorem Rl.beside (r : Rl T S σ H B) {p : Addr} (hp : H p = none) (o : HO) : Rl T S σ (upd H p o) B := by
  have ne : ∀ {a u}, H a = some u → a ≠ p := fun e z => by rw [z, hp] at e; cases e
  have up : ∀ {a u}, H a = some u → upd H p o a = some u := fun e => by rw [upd_ne (ne e)]; exact e
  exact ⟨r.ln, fun a u e => (r.g a u e).mono fun _ => up, r.lk, fun a u e => ⟨up (r.f a u e).1, (r.f a u e).2⟩, fun i s e => (r.sl i s e).heap fun a u _ _ k => up k, r.cl, fun n c a e1 e2 => (r.ce n c a e1 e2).heap fun u k => up k, r.fs, r.fc, r.ds, r.dc⟩
theorem Rl.gnone (r : Rl T S σ H B) {p : Addr} (hp : H p = none) : B.G p = none := by
  cases e : B.G p with
  | none => rfl
  | some u => obtain ⟨_, q⟩ := (r.g p u e).has; rw [q] at hp; cases hp

/-- a slot is set: a value -/
def MS.put (S : MS) (i : Nat) (s : Sl) : MS := { S with env := S.env.set i s }
theorem Rl.set (r : Rl T S σ H B) {i : Nat} {d : D} {v : V} (hi : i < S.env.length) (q : Rep T.toCfg B d v) : Rl T (S.put i (.va d)) (σ.set i (some v)) H B := by
  have ow : ∀ {j a}, Owns (S.put i (.va d)) (σ.set i (some v)) j a → Owns S σ j a := fun {j a} ⟨⟨s, e, l⟩, h⟩ => by
    have e : (S.env.set i (.va d))[j]? = some s := e
    by_cases z : i = j
    · subst z
      rw [List.getElem?_set_self hi] at e
      cases e; cases l
    · rw [List.getElem?_set_ne z] at e h
      exact ⟨⟨s, e, l⟩, h⟩
  refine ⟨?_, r.g, r.lk, r.f, fun j s e => ?_, r.cl, r.ce, fun j a h => r.fs j a (ow h), r.fc, fun j k a h1 h2 => r.ds j k a (ow h1) (ow h2), r.dc⟩
  · show (σ.set i _).length = (S.env.set i _).length
    rw [List.length_set, List.length_set]; exact r.ln
  · have e : (S.env.set i (.va d))[j]? = some s := e
    by_cases z : i = j
    · subst z
      rw [List.getElem?_set_self hi] at e
      cases e
      exact ⟨v, List.getElem?_set_self (by rw [r.ln]; exact hi), q⟩
    · rw [List.getElem?_set_ne z] at e
      rw [List.getElem?_set_ne z]
      exact r.sl j s e
/-- .. a new object of its own -/
theorem Rl.setOwn (r : Rl T S σ H B) {i : Nat} {s : Sl} {p : Addr} {o : HO} (hi : i < S.env.length) (hp : H p = none) (q : SlOk T B (upd H p o) s (some (some (.ref p)))) :
    Rl T (S.put i s) (σ.set i (some (.ref p))) (upd H p o) B := by
  have r0 := r.beside hp o
  have hs : i < σ.length := by rw [r.ln]; exact hi
  have ow : ∀ {j a}, Owns (S.put i s) (σ.set i (some (.ref p))) j a → (j = i ∧ a = p) ∨ (j ≠ i ∧ Owns S σ j a) := fun {j a} ⟨⟨t, e, l⟩, h⟩ => by
    have e : (S.env.set i s)[j]? = some t := e
    by_cases z : i = j
    · subst z
      rw [List.getElem?_set_self hs] at h
      cases h
      exact .inl ⟨rfl, rfl⟩
    · rw [List.getElem?_set_ne z] at e h
      exact .inr ⟨fun q => z q.symm, ⟨t, e, l⟩, h⟩
  have fp : B.F p = none := by
    cases e : B.F p with
    | none => rfl
    | some u => rw [(r.f p u e).1] at hp; cases hp
  have rp : p ∉ B.ρ := fun z => by obtain ⟨u, k⟩ := r.cellv z; rw [hp] at k; cases k
  have np : ∀ {j}, ¬ Owns S σ j p := fun h => by obtain ⟨u, k⟩ := Owns.lv r h; rw [hp] at k; cases k
  refine ⟨?_, r0.g, r0.lk, r0.f, fun j t e => ?_, r0.cl, r0.ce, fun j a h => ?_, r0.fc, fun j k a h1 h2 => ?_, r0.dc⟩
  · show (σ.set i _).length = (S.env.set i _).length
    rw [List.length_set, List.length_set]; exact r.ln
  · have e : (S.env.set i s)[j]? = some t := e
    by_cases z : i = j
    · subst z
      rw [List.getElem?_set_self hi] at e
      cases e
      rw [List.getElem?_set_self hs]
      exact q
    · rw [List.getElem?_set_ne z] at e
      rw [List.getElem?_set_ne z]
      exact r0.sl j t e
  · rcases ow h with ⟨_, rfl⟩ | ⟨_, h⟩
    · exact ⟨r.gnone hp, fp, rp⟩
    · exact r.fs j a h
  · rcases ow h1 with ⟨e1, z1⟩ | ⟨e1, g1⟩
    · rcases ow h2 with ⟨e2, z2⟩ | ⟨e2, g2⟩
      · rw [e1, e2]
      · rw [z1] at g2; exact absurd g2 np
    · rcases ow h2 with ⟨e2, z2⟩ | ⟨e2, g2⟩
      · rw [z2] at g1; exact absurd g1 np
      · exact r.ds j k a g1 g2
/-- a slot's own object changes -/
theorem Rl.mut (r : Rl T S σ H B) {i : Nat} {s s' : Sl} {a : Addr} {o : HO} (hs : S.env[i]? = some s) (hl : s.live = true) (ha : σ[i]? = some (some (.ref a))) (q : SlOk T B (upd H a o) s' (some (some (.ref a)))) :
    Rl T (S.put i s') σ (upd H a o) B := by
  have hi : i < S.env.length := (List.getElem?_eq_some_iff.mp hs).1
  have own : Owns S σ i a := ⟨⟨s, hs, hl⟩, ha⟩
  obtain ⟨ga, fa, ra⟩ := r.fs i a own
  have ow : ∀ {j b}, Owns (S.put i s') σ j b → Owns S σ j b := fun {j b} ⟨⟨t, e, l⟩, h⟩ => by
    have e : (S.env.set i s')[j]? = some t := e
    by_cases z : i = j
    · subst z
      rw [ha] at h; cases h
      exact own
    · rw [List.getElem?_set_ne z] at e
      exact ⟨⟨t, e, l⟩, h⟩
  have up : ∀ {b u}, b ≠ a → H b = some u → upd H a o b = some u := fun z e => by rw [upd_ne z]; exact e
  refine ⟨?_, fun b u e => (r.g b u e).mono fun _ => up (fun z => by rw [z, ga] at e; cases e), r.lk, fun b u e => ⟨up (fun z => by rw [z, fa] at e; cases e) (r.f b u e).1, (r.f b u e).2⟩, fun j t e => ?_, r.cl, fun n c b e1 e2 => ?_, fun j b h => r.fs j b (ow h), r.fc, fun j k b h1 h2 => r.ds j k b (ow h1) (ow h2), r.dc⟩
  · show σ.length = (S.env.set i _).length
    rw [List.length_set]; exact r.ln
  · have e : (S.env.set i s')[j]? = some t := e
    by_cases z : i = j
    · subst z
      rw [List.getElem?_set_self hi] at e
      cases e
      rw [ha]; exact q
    · rw [List.getElem?_set_ne z] at e
      refine (r.sl j t e).heap fun b u l eb k => up (fun w => ?_) k
      subst w
      exact z (r.ds i j b own ⟨⟨t, e, l⟩, eb⟩)
  · exact (r.ce n c b e1 e2).heap fun u k => up (fun w => ra (w ▸ List.mem_of_getElem? e2)) k
/-- a slot's own object joins the frozen part -/
theorem Rl.freeze (r : Rl T S σ H B) {i : Nat} {s : Sl} {a : Addr} {o : HO} {d : D} (hs : S.env[i]? = some s) (hl : s.live = true) (ha : σ[i]? = some (some (.ref a))) (ho : H a = some o) (q : Rep T.toCfg (B.add a o) d (.ref a)) :
    Rl T (S.put i (.va d)) σ H (B.add a o) ∧ B.le (B.add a o) := by
  have hi : i < S.env.length := (List.getElem?_eq_some_iff.mp hs).1
  have own : Owns S σ i a := ⟨⟨s, hs, hl⟩, ha⟩
  obtain ⟨ga, fa, ra⟩ := r.fs i a own
  have le := Bd.le_add (o := o) ga
  have ow : ∀ {j b}, Owns (S.put i (.va d)) σ j b → Owns S σ j b ∧ b ≠ a := fun {j b} ⟨⟨t, e, l⟩, h⟩ => by
    have e : (S.env.set i (.va d))[j]? = some t := e
    by_cases z : i = j
    · subst z
      rw [List.getElem?_set_self hi] at e
      cases e; cases l
    · rw [List.getElem?_set_ne z] at e
      have o2 : Owns S σ j b := ⟨⟨t, e, l⟩, h⟩
      exact ⟨o2, fun w => by subst w; exact z (r.ds i j b own o2)⟩
  refine ⟨⟨?_, fun b u e => ?_, fun b e => ?_, fun b u e => ?_, fun j t e => ?_, r.cl, fun n c b e1 e2 => (r.ce n c b e1 e2).le le, fun j b h => ?_, fun n c b e1 e2 => ?_, fun j k b h1 h2 => r.ds j k b (ow h1).1 (ow h2).1, r.dc⟩, le⟩
  · show σ.length = (S.env.set i _).length
    rw [List.length_set]; exact r.ln
  · have e : upd B.G a o b = some u := e
    by_cases z : b = a
    · subst z; rw [upd_same] at e; cases e; exact .inl ⟨r.lno ga, ho⟩
    · rw [upd_ne z] at e; exact r.g b u e
  · obtain ⟨u, q⟩ := r.lk b e
    exact ⟨u, le.g b u q⟩
  · obtain ⟨h1, h2⟩ := r.f b u e
    exact ⟨h1, by show upd B.G a o b = none ∨ _; rw [upd_ne (fun z => by have e : B.F b = some u := e; rw [z, fa] at e; cases e)]; exact h2⟩
  · have e : (S.env.set i (.va d))[j]? = some t := e
    by_cases z : i = j
    · subst z
      rw [List.getElem?_set_self hi] at e
      cases e
      exact ⟨.ref a, ha, q⟩
    · rw [List.getElem?_set_ne z] at e
      exact (r.sl j t e).le le
  · obtain ⟨h1, h2⟩ := ow h
    obtain ⟨z1, z2⟩ := r.fs j b h1
    exact ⟨by show upd B.G a o b = none; rw [upd_ne h2]; exact z1, z2⟩
  · obtain ⟨z1, z2⟩ := r.fc n c b e1 e2
    exact ⟨by show upd B.G a o b = none; rw [upd_ne (fun z => by rw [z] at e2; exact ra (List.mem_of_getElem? e2))]; exact z1, z2⟩
/-- a tracked tuple is seen -/
theorem Rl.seeTup (r : Rl T S σ H B) {b : Addr} {xs : List V} (hb : H b = some (.tup xs)) : ∃ B', Rl T S σ H B' ∧ B.le B' ∧ B'.G b = some (.tup xs) := by
  cases e : B.G b with
  | some o =>
    have q := r.g b o e
    rcases q with ⟨_, q⟩ | ⟨_, d, ob, q⟩
    · rw [hb] at q; cases q; exact ⟨B, r, .rfl', e⟩
    · rw [hb] at q; cases q
  | none =>
    have nl : ∀ {i a}, Owns S σ i a → a ≠ b := fun {i a} ⟨⟨s, e1, l⟩, q⟩ z => by
      have x := r.sl i s e1
      rw [q] at x
      subst z
      cases s with
      | un => cases l
      | va d => cases l
      | xc c fs => cases l
      | ol ds => obtain ⟨a', xs, e', k, _⟩ := x; cases e'; rw [hb] at k; cases k
      | od t kvs => obtain ⟨a', e', ⟨_, ks, k, _⟩ | ⟨_, ks, k, _⟩⟩ := x <;> (cases e'; rw [hb] at k; cases k)
      | oi c fs => obtain ⟨a', C, dx, vs, e', _, k, _⟩ := x; cases e'; rw [hb] at k; cases k
    have nc : b ∉ B.ρ := fun h => by
      obtain ⟨n, c, u, _, _, k, q⟩ := r.cellT h
      rw [hb] at k; cases k; cases q
    have le := Bd.le_add (o := .tup xs) e
    refine ⟨B.add b (.tup xs), ⟨r.ln, fun a u q => ?_, fun a q => ?_, fun a u q => ?_, fun i s q => (r.sl i s q).le le, r.cl, fun n c a e1 e2 => (r.ce n c a e1 e2).le le, fun i a h => ?_, fun n c a e1 e2 => ?_, r.ds, r.dc⟩, le, upd_same⟩
    · have q' : upd B.G b (.tup xs) a = some u := q
      by_cases z : a = b
      · subst z; rw [upd_same] at q'; cases q'; exact .inl ⟨r.lno e, hb⟩
      · rw [upd_ne z] at q'; exact r.g a u q'
    · obtain ⟨u, k⟩ := r.lk a q
      exact ⟨u, le.g a u k⟩
    · obtain ⟨h1, h2⟩ := r.f a u q
      refine ⟨h1, ?_⟩
      by_cases z : a = b
      · subst z; rw [hb] at h1; cases h1; exact .inr rfl
      · show upd B.G b _ a = none ∨ _
        rw [upd_ne z]; exact h2
    · obtain ⟨h1, h2⟩ := r.fs i a h
      exact ⟨by show upd B.G b _ a = none; rw [upd_ne (nl h)]; exact h1, h2⟩
    · obtain ⟨h1, h2⟩ := r.fc n c a e1 e2
      exact ⟨by show upd B.G b _ a = none; rw [upd_ne (fun z => by rw [z] at e2; exact nc (List.mem_of_getElem? e2))]; exact h1, h2⟩
end
end Mir
/-! Mir2: the readings of mirrors; names, constants, operators, tests, displays. -/
namespace Mir
open PySem PySem.Spec PyProof.Rows L2

def PostR {α β : Type} (T : Su) (σ : L2.St) (B : Bd) (rel : Bd → α → β → Prop) (Q : β → Hp → Prop) : R α → Prop
  | .ok a S' => ∀ b H' B', Rl T.toZu S' σ H' B' → B.le B' → rel B' a b → Q b H'
  | .ex c fs S' => ∀ C d H' B', T.cls c = some C → XdOk T.toCfg B' d fs → Rl T.toZu S' σ H' B' → B.le B' → T.W (.ref C) d σ H'
  | .st => False
abbrev RelD (T : Su) : Bd → D → V → Prop := fun B => Rep T.toCfg B
abbrev RelDs (T : Su) : Bd → List D → List V → Prop := fun B => RepL T.toCfg B
abbrev RelB : Bd → Bool → Bool → Prop := fun _ a b => a = b
def TEm (T : Su) (e : Exp) : TE := fun σ H Q => ∃ S B, Rl T.toZu S σ H B ∧ PostR T σ B (RelD T) Q (e S)
def TTm (T : Su) (t : Tst) : TT := fun σ H Q => ∃ S B, Rl T.toZu S σ H B ∧ PostR T σ B RelB Q (t S)
def TAm (T : Su) (es : Exps) : TA := fun σ H Q => ∃ S B, Rl T.toZu S σ H B ∧ PostR T σ B (RelDs T) Q (es S)

section
variable {α β γ δ : Type} {T : Su} {σ : L2.St} {H : Hp} {B B1 : Bd} {rel : Bd → α → β → Prop} {rel2 : Bd → γ → δ → Prop} {Q : β → Hp → Prop} {P : δ → Hp → Prop}
theorem PostR.le {r : R α} (h : PostR T σ B rel Q r) (l : B.le B1) : PostR T σ B1 rel Q r := by
  cases r with
  | ok a S => exact fun b H' B' x l' => h b H' B' x (l.trans l')
  | ex c fs S => exact fun C d H' B' e z x l' => h C d H' B' e z x (l.trans l')
  | st => exact h
theorem PostR.imp {r : R α} {Q' : β → Hp → Prop} (h : PostR T σ B rel Q r) (k : ∀ b H', Q b H' → Q' b H') : PostR T σ B rel Q' r := by
  cases r with
  | ok a S => exact fun b H' B' x l' e => k _ _ (h b H' B' x l' e)
  | ex c fs S => exact h
  | st => exact h
/-- one after the other -/
theorem PostR.bind {r : R γ} {f : γ → MS → R α} (h : PostR T σ B rel Q (r.bind f))
    (k : ∀ a S1 b H1 B1, Rl T.toZu S1 σ H1 B1 → B.le B1 → rel2 B1 a b → PostR T σ B1 rel Q (f a S1) → P b H1) : PostR T σ B rel2 P r := by
  cases r with
  | ok a S => exact fun b H' B' x l e => k a S b H' B' x l e (PostR.le (r := f a S) h l)
  | ex c fs S => exact h
  | st => exact h
end
section
variable {X : Cx} {e : Expr}
theorem peI {t t' : TE} (h : PE X e t) (k : ∀ σ H Q, t' σ H Q → t σ H Q) : PE X e t' := ⟨fun pins s σ H Q I q => h.run pins s σ H Q I (k σ H Q q)⟩
theorem ptI {t t' : TT} (h : PT X e t) (k : ∀ σ H Q, t' σ H Q → t σ H Q) : PT X e t' := ⟨fun pins s σ H Q I q => h.run pins s σ H Q I (k σ H Q q)⟩
theorem pwI {t t' : TT} (h : PW X e t) (k : ∀ σ H Q, t' σ H Q → t σ H Q) : PW X e t' := ⟨fun wh pins s σ H Q I q => h.run wh pins s σ H Q I (k σ H Q q)⟩
theorem paI {es : List Expr} {t t' : TA} (h : PA X es t) (k : ∀ σ H Q, t' σ H Q → t σ H Q) : PA X es t' := ⟨fun pos pins s σ H Q I q => h.run pos pins s σ H Q I (k σ H Q q)⟩
theorem psI {st : Stmt} {t t' : TS} (h : PS X st t) (k : ∀ D σ H, t' D σ H → t D σ H) : PS X st t' := ⟨fun pins s σ H D I q => h.run pins s σ H D I (k D σ H q)⟩
theorem pssI {st : List Stmt} {t t' : TS} (h : PSs X st t) (k : ∀ D σ H, t' D σ H → t D σ H) : PSs X st t' := ⟨fun pins s σ H D I q => h.run pins s σ H D I (k D σ H q)⟩
end

/-! ### names, constants -/
def eVar (i : Nat) : Exp := fun S => match S.env[i]? with
  | some (.va d) => .ok d S
  | some (.ol ds) => .ok (.lst ds) (S.put i (.va (.lst ds)))
  | some (.od t kvs) => .ok (.dic t kvs) (S.put i (.va (.dic t kvs)))
  | some (.oi c fs) => .ok (.ins c fs) (S.put i (.va (.ins c fs)))
  | _ => .st
def eC (d : D) : Exp := fun S => .ok d S
theorem dicAt_dic {T : Cfg} {B : Bd} {H : Hp} {a : Addr} {t : Bool} {kvs : List (D × D)} (q : DicAt T B H a t kvs) : ∃ o, H a = some o ∧ dicO o = true ∧ ∀ B', B.le B' → B'.G a = some o → Rep T B' (.dic t kvs) (.ref a) := by
  rcases q with ⟨rfl, ks, k, r⟩ | ⟨rfl, ks, k, r⟩
  · exact ⟨_, k, rfl, fun B' l e => .dic e (r.le l)⟩
  · exact ⟨_, k, rfl, fun B' l e => .dit e (r.le l)⟩
section
variable {X : Cx} {T : Su} {pos : Pos}
theorem var_of {i : Nat} {σ : L2.St} {H : Hp} {Q : VK} (h : TEm T (eVar i) σ H Q) : ∃ v, σ[i]? = some (some v) ∧ Q v H := by
  obtain ⟨S, B, r, h⟩ := h
  unfold eVar at h
  cases e : S.env[i]? with
  | none => rw [e] at h; exact h.elim
  | some s =>
    rw [e] at h
    have x := r.sl i s e
    cases s with
    | un => exact h.elim
    | xc c fs => exact h.elim
    | va d =>
      obtain ⟨v, ev, q⟩ := x
      exact ⟨v, ev, h v H B r .rfl' q⟩
    | ol ds =>
      obtain ⟨a, xs, ev, k, q⟩ := x
      have ga := (r.fs i a ⟨⟨_, e, rfl⟩, ev⟩).1
      obtain ⟨r', l⟩ := r.freeze e rfl ev k (.lst (B := B.add a (.lst xs)) upd_same (q.le (Bd.le_add ga)))
      exact ⟨.ref a, ev, h _ H _ r' l (.lst upd_same (q.le l))⟩
    | od t kvs =>
      obtain ⟨a, ev, q⟩ := x
      have ga := (r.fs i a ⟨⟨_, e, rfl⟩, ev⟩).1
      obtain ⟨o, k, _, mk⟩ := dicAt_dic q
      obtain ⟨r', l⟩ := r.freeze e rfl ev k (mk _ (Bd.le_add ga) upd_same)
      exact ⟨.ref a, ev, h _ H _ r' l (mk _ l upd_same)⟩
    | oi c fs =>
      obtain ⟨a, C, dx, vs, ev, hc, k, q⟩ := x
      have ga := (r.fs i a ⟨⟨_, e, rfl⟩, ev⟩).1
      obtain ⟨r', l⟩ := r.freeze e rfl ev k (.ins (B := B.add a _) hc upd_same (q.le (Bd.le_add ga)))
      exact ⟨.ref a, ev, h _ H _ r' l (.ins hc upd_same (q.le l))⟩
theorem r_var (i : Nat) {x : Str} (hN : X.N[i]? = some x := by rfl) (hv : Vis X.env.scope x := by first | exact Or.inl rfl | exact Or.inr (Or.inl rfl) | exact Or.inr (Or.inr rfl)) (hd : (x == ("__debug__" : Str)) = false := by decide)
    (hcd : (x == ("__classdict__" : Str)) = false := by decide) : PE X (.Name x pos) (TEm T (eVar i)) := peI (pe_var hN hv hd hcd) fun σ H Q h => var_of h
theorem c_of {d : D} {v : V} (hr : ∀ B, Rep T.toCfg B d v) {σ : L2.St} {H : Hp} {Q : VK} (h : TEm T (eC d) σ H Q) : Q v H := by
  obtain ⟨S, B, r, h⟩ := h
  exact h v H B r .rfl' (hr B)
theorem r_int {i j} : PE X (.Constant (.int i) j pos) (TEm T (eC (.int i))) := peI pe_int fun _ _ _ h => c_of (fun _ => .int i) h
theorem r_bl {b j} : PE X (.Constant (.bool b) j pos) (TEm T (eC (.bl b))) := peI pe_bl fun _ _ _ h => c_of (fun _ => .bl b) h
theorem r_non {j} : PE X (.Constant .none j pos) (TEm T (eC .non)) := peI pe_non fun _ _ _ h => c_of (fun _ => .non) h
theorem r_str {x j} : PE X (.Constant (.str x) j pos) (TEm T (eC (.str x))) := peI pe_str fun _ _ _ h => c_of (fun _ => .str x) h
/-- a module's constant -/
theorem r_glob {x : Str} {d : D} {v : V} {u : Value} (hr : ∀ B, Rep T.toCfg B d v) (hg : Gl X x) (hm : X.mg x = some u) (r : RelV v u) (hd : (x == ("__debug__" : Str)) = false := by decide) : PE X (.Name x pos) (TEm T (eC d)) :=
  peI (pe_glob hg hm r hd) fun _ _ _ h => c_of hr h
end

/-! ### operators by values -/
def liftO (S : MS) : Option D → R D
  | some d => .ok d S
  | none => .st
def eBin (g : D → D → Option D) (a b : Exp) : Exp := fun S => (a S).bind fun x S1 => (b S1).bind fun y S2 => liftO S2 (g x y)
def eUn (g : D → Option D) (a : Exp) : Exp := fun S => (a S).bind fun x S1 => liftO S1 (g x)
/-- a rule of values gives what the mirror gives -/
def Bin (T : Cfg) (r : R2) (g : D → D → Option D) : Prop := ∀ {Z S σ H B x y d v w} {Q : VK}, Rl ⟨T, Z⟩ S σ H B → Rep T B x v → Rep T B y w → g x y = some d →
  (∀ u H' B', Rl ⟨T, Z⟩ S σ H' B' → B.le B' → Rep T B' d u → Q u H') → r v w H Q
def Un1 (T : Cfg) (r : V → Hp → VK → Prop) (g : D → Option D) : Prop := ∀ {Z S σ H B x d v} {Q : VK}, Rl ⟨T, Z⟩ S σ H B → Rep T B x v → g x = some d →
  (∀ u H' B', Rl ⟨T, Z⟩ S σ H' B' → B.le B' → Rep T B' d u → Q u H') → r v H Q
theorem liftO_post {T : Su} {σ : L2.St} {B : Bd} {Q : VK} {S : MS} {o : Option D} (h : PostR T σ B (RelD T) Q (liftO S o)) : ∃ d, o = some d ∧ ∀ v H' B', Rl T.toZu S σ H' B' → B.le B' → Rep T.toCfg B' d v → Q v H' := by
  cases o with
  | none => exact h.elim
  | some d => exact ⟨d, rfl, h⟩
section
variable {X : Cx} {T : Su} {pos : Pos} {a b : Expr} {ea eb : Exp} {r : R2} {g : D → D → Option D}
theorem bin_of (hg : Bin T.toCfg r g) {σ : L2.St} {H : Hp} {Q : VK} (h : TEm T (eBin g ea eb) σ H Q) : tOp r (TEm T ea) (TEm T eb) σ H Q := by
  obtain ⟨S, B, rl, h⟩ := h
  refine ⟨S, B, rl, PostR.bind h fun x S1 v H1 B1 r1 l1 q1 h1 => ?_⟩
  refine ⟨S1, B1, r1, PostR.bind h1 fun y S2 w H2 B2 r2 l2 q2 h2 => ?_⟩
  obtain ⟨d, e, k⟩ := liftO_post h2
  exact hg (Z := T.Z) r2 (q1.le l2) q2 e k
theorem r_bin {op : Operator} (ho : OpR X (binaryOp op) r) (hg : Bin T.toCfg r g) (ha : PE X a (TEm T ea)) (hb : PE X b (TEm T eb)) : PE X (.BinOp a op b pos) (TEm T (eBin g ea eb)) :=
  peI (pe_op ho ha hb) fun _ _ _ h => bin_of hg h
theorem r_cmp {op : CmpOp} (ho : OpR X (compareOp op) r) (hg : Bin T.toCfg r g) (ha : PE X a (TEm T ea)) (hb : PE X b (TEm T eb)) (hm : behindInMarks op b = false := by rfl) : PE X (.Compare a [op] [b] pos) (TEm T (eBin g ea eb)) :=
  peI (pe_cmpR ho ha hb hm) fun _ _ _ h => bin_of hg h
theorem un_of {r : V → Hp → VK → Prop} {g : D → Option D} (hg : Un1 T.toCfg r g) {σ : L2.St} {H : Hp} {Q : VK} (h : TEm T (eUn g ea) σ H Q) : tUn r (TEm T ea) σ H Q := by
  obtain ⟨S, B, rl, h⟩ := h
  refine ⟨S, B, rl, PostR.bind h fun x S1 v H1 B1 r1 l1 q1 h1 => ?_⟩
  obtain ⟨d, e, k⟩ := liftO_post h1
  exact hg (Z := T.Z) r1 q1 e k
theorem r_un {op : UnaryOp} {r : V → Hp → VK → Prop} {g : D → Option D} (ho : UnR X (unaryOp op) r) (hg : Un1 T.toCfg r g) (ha : PE X a (TEm T ea)) : PE X (.UnaryOp op a pos) (TEm T (eUn g ea)) :=
  peI (pe_un ho ha) fun _ _ _ h => un_of hg h
end

/-! ### tests -/
def tOf (e : Exp) : Tst := fun S => (e S).bind fun d S1 => match d with
  | .bl b => .ok b S1
  | _ => .st
def tAndM (a b : Tst) : Tst := fun S => (a S).bind fun x S1 => if x = true then b S1 else .ok false S1
def tOrM (a b : Tst) : Tst := fun S => (a S).bind fun x S1 => if x = true then .ok true S1 else b S1
def tNotM (a : Tst) : Tst := fun S => (a S).bind fun x S1 => .ok (!x) S1
def eAnd (a b : Exp) : Exp := fun S => (a S).bind fun d S1 => match d with
  | .bl true => b S1
  | .bl false => .ok (.bl false) S1
  | _ => .st
def eOr (a b : Exp) : Exp := fun S => (a S).bind fun d S1 => match d with
  | .bl true => .ok (.bl true) S1
  | .bl false => b S1
  | _ => .st
def eNot (a : Exp) : Exp := fun S => (a S).bind fun d S1 => match d with
  | .bl x => .ok (.bl (!x)) S1
  | _ => .st
def eIf (t : Tst) (a b : Exp) : Exp := fun S => (t S).bind fun x S1 => if x = true then a S1 else b S1
section
variable {X : Cx} {T : Su} {pos : Pos} {a b c : Expr} {ea eb : Exp} {ta tb : Tst} {rest : List Expr} {r : R2} {g : D → D → Option D}
theorem tOf_of {σ : L2.St} {H : Hp} {Q : Bool → Hp → Prop} (h : TTm T (tOf ea) σ H Q) : TEm T ea σ H fun x H1 => ∃ k, x = .bl k ∧ Q k H1 := by
  obtain ⟨S, B, rl, h⟩ := h
  refine ⟨S, B, rl, PostR.bind h fun x S1 v H1 B1 r1 l1 q1 h1 => ?_⟩
  cases q1 with
  | bl k => exact ⟨k, rfl, h1 k H1 B1 r1 .rfl' rfl⟩
  | non => exact h1.elim
  | int _ => exact h1.elim
  | str _ => exact h1.elim
  | lst _ _ => exact h1.elim
  | scr _ => exact h1.elim
  | tup _ _ => exact h1.elim
  | dic _ _ => exact h1.elim
  | dit _ _ => exact h1.elim
  | ins _ _ _ => exact h1.elim
  | cel _ => exact h1.elim
/-- an expression whose value is a bool, as a test -/
theorem q_val {e : Expr} (h : PE X e (TEm T ea)) (he : ∀ whole, isTrue e X.env whole = (do let v ← whole; standAt e.pos; holding [v] (truthy v)) := by intro _; rfl) : PT X e (TTm T (tOf ea)) :=
  ptI (pt_val h he) fun _ _ _ q => tOf_of q
theorem q_cmp {op : CmpOp} (ho : OpR X (compareOp op) r) (hg : Bin T.toCfg r g) (ha : PE X a (TEm T ea)) (hb : PE X b (TEm T eb)) (hm : behindInMarks op b = false := by rfl) : PT X (.Compare a [op] [b] pos) (TTm T (tOf (eBin g ea eb))) :=
  ptI (pt_cmpR ho ha hb hm) fun _ _ _ q => bin_of hg (tOf_of q)
theorem and_of {σ : L2.St} {H : Hp} {Q : Bool → Hp → Prop} (h : TTm T (tAndM ta tb) σ H Q) : tAnd (TTm T ta) (TTm T tb) σ H Q := by
  obtain ⟨S, B, rl, h⟩ := h
  refine ⟨S, B, rl, PostR.bind h fun x S1 k H1 B1 r1 l1 q1 h1 => ?_⟩
  cases q1
  cases x with
  | true => exact ⟨S1, B1, r1, h1⟩
  | false => exact h1 false H1 B1 r1 .rfl' rfl
theorem or_of {σ : L2.St} {H : Hp} {Q : Bool → Hp → Prop} (h : TTm T (tOrM ta tb) σ H Q) : tOr (TTm T ta) (TTm T tb) σ H Q := by
  obtain ⟨S, B, rl, h⟩ := h
  refine ⟨S, B, rl, PostR.bind h fun x S1 k H1 B1 r1 l1 q1 h1 => ?_⟩
  cases q1
  cases x with
  | true => exact h1 true H1 B1 r1 .rfl' rfl
  | false => exact ⟨S1, B1, r1, h1⟩
theorem q_and1 (ha : PT X a (TTm T ta)) : PW X (.BoolOp .And [a] pos) (TTm T ta) := pw_and1 ha
theorem q_or1 (ha : PT X a (TTm T ta)) : PW X (.BoolOp .Or [a] pos) (TTm T ta) := pw_or1 ha
theorem q_and (ha : PT X a (TTm T ta)) (hb : PW X (.BoolOp .And (b :: rest) pos) (TTm T tb)) : PW X (.BoolOp .And (a :: b :: rest) pos) (TTm T (tAndM ta tb)) := pwI (pw_and ha hb) fun _ _ _ h => and_of h
theorem q_or (ha : PT X a (TTm T ta)) (hb : PW X (.BoolOp .Or (b :: rest) pos) (TTm T tb)) : PW X (.BoolOp .Or (a :: b :: rest) pos) (TTm T (tOrM ta tb)) := pwI (pw_or ha hb) fun _ _ _ h => or_of h
theorem q_not (ha : PT X a (TTm T ta)) : PT X (.UnaryOp .Not a pos) (TTm T (tNotM ta)) := ptI (pt_not ha) fun σ H Q h => by
  obtain ⟨S, B, rl, h⟩ := h
  refine ⟨S, B, rl, PostR.bind h fun x S1 k H1 B1 r1 l1 q1 h1 => ?_⟩
  cases q1
  exact h1 (!x) H1 B1 r1 .rfl' rfl
theorem r_and1 {op} (ha : PE X a (TEm T ea)) : PE X (.BoolOp op [a] pos) (TEm T ea) := pe_one ha
theorem r_and (ha : PE X a (TEm T ea)) (hb : PE X (.BoolOp .And (b :: rest) pos) (TEm T eb)) : PE X (.BoolOp .And (a :: b :: rest) pos) (TEm T (eAnd ea eb)) := peI (pe_and ha hb) fun σ H Q h => by
  obtain ⟨S, B, rl, h⟩ := h
  refine ⟨S, B, rl, PostR.bind h fun x S1 v H1 B1 r1 l1 q1 h1 => ?_⟩
  cases q1 <;> first | exact h1.elim | skip
  rename_i k
  cases k with
  | true => exact ⟨true, rfl, S1, B1, r1, h1⟩
  | false => exact ⟨false, rfl, h1 _ H1 B1 r1 .rfl' (.bl false)⟩
theorem r_or (ha : PE X a (TEm T ea)) (hb : PE X (.BoolOp .Or (b :: rest) pos) (TEm T eb)) : PE X (.BoolOp .Or (a :: b :: rest) pos) (TEm T (eOr ea eb)) := peI (pe_or ha hb) fun σ H Q h => by
  obtain ⟨S, B, rl, h⟩ := h
  refine ⟨S, B, rl, PostR.bind h fun x S1 v H1 B1 r1 l1 q1 h1 => ?_⟩
  cases q1 <;> first | exact h1.elim | skip
  rename_i k
  cases k with
  | true => exact ⟨true, rfl, h1 _ H1 B1 r1 .rfl' (.bl true)⟩
  | false => exact ⟨false, rfl, S1, B1, r1, h1⟩
theorem r_not (ha : PE X a (TEm T ea)) : PE X (.UnaryOp .Not a pos) (TEm T (eNot ea)) := peI (pe_not ha) fun σ H Q h => by
  obtain ⟨S, B, rl, h⟩ := h
  refine ⟨S, B, rl, PostR.bind h fun x S1 v H1 B1 r1 l1 q1 h1 => ?_⟩
  cases q1 <;> first | exact h1.elim | skip
  rename_i k
  exact ⟨k, rfl, h1 _ H1 B1 r1 .rfl' (.bl _)⟩
theorem r_if (hc : PT X c (TTm T ta)) (ha : PE X a (TEm T ea)) (hb : PE X b (TEm T eb)) : PE X (.IfExp c a b pos) (TEm T (eIf ta ea eb)) := peI (pe_ifExp hc ha hb) fun σ H Q h => by
  obtain ⟨S, B, rl, h⟩ := h
  refine ⟨S, B, rl, PostR.bind h fun x S1 k H1 B1 r1 l1 q1 h1 => ?_⟩
  cases q1
  cases x with
  | true => exact ⟨S1, B1, r1, h1⟩
  | false => exact ⟨S1, B1, r1, h1⟩
end

/-! ### argument lists, displays -/
def aNil : Exps := fun S => .ok [] S
def aCons (a : Exp) (as : Exps) : Exps := fun S => (a S).bind fun x S1 => (as S1).bind fun xs S2 => .ok (x :: xs) S2
def eTup (as : Exps) : Exp := fun S => (as S).bind fun xs S1 => if xs.length ≤ sizeLine then .ok (.tup xs) S1 else .st
def eLst (as : Exps) : Exp := fun S => (as S).bind fun xs S1 => if xs.length ≤ sizeLine then .ok (.lst xs) S1 else .st
theorem RepL.length {T : Cfg} {B : Bd} : ∀ {ds : List D} {vs : List V}, RepL T B ds vs → ds.length = vs.length
  | _, _, .nil => rfl
  | _, _, .cons _ t => congrArg (· + 1) t.length
section
variable {X : Cx} {T : Su} {pos : Pos} {e : Expr} {es : List Expr} {ee : Exp} {ees : Exps}
theorem s_nil : PA X [] (TAm T aNil) := paI pa_nil fun σ H Q ⟨S, B, rl, h⟩ => h [] H B rl .rfl' .nil
theorem acons_of {σ : L2.St} {H : Hp} {Q : List V → Hp → Prop} (h : TAm T (aCons ee ees) σ H Q) : tCons (TEm T ee) (TAm T ees) σ H Q := by
  obtain ⟨S, B, rl, h⟩ := h
  refine ⟨S, B, rl, PostR.bind h fun x S1 v H1 B1 r1 l1 q1 h1 => ?_⟩
  refine ⟨S1, B1, r1, PostR.bind h1 fun xs S2 vs H2 B2 r2 l2 q2 h2 => ?_⟩
  exact h2 _ H2 B2 r2 .rfl' (.cons (q1.le l2) q2)
theorem s_cons (ha : PE X e (TEm T ee)) (hr : PA X es (TAm T ees)) (hs : starEach (e :: es) X.env = (false, eval e X.env) :: starEach es X.env := by rfl) : PA X (e :: es) (TAm T (aCons ee ees)) := paI (pa_cons ha hr hs) fun σ H Q h => acons_of h
theorem r_tup {k} (h : PA X es (TAm T ees)) : PE X (.Tuple es k pos) (TEm T (eTup ees)) := peI (pe_tup h) fun σ H Q h => by
  obtain ⟨S, B, rl, h⟩ := h
  refine ⟨S, B, rl, PostR.bind h fun x S1 v H1 B1 r1 l1 q1 h1 => ?_⟩
  by_cases z : x.length ≤ sizeLine
  · rw [if_pos z] at h1
    refine ⟨by rw [← q1.length]; exact z, fun p hp => ?_⟩
    exact h1 _ _ _ (r1.alloc hp _) (Bd.le_add (r1.gnone hp)) (.tup upd_same (q1.le (Bd.le_add (r1.gnone hp))))
  · rw [if_neg z] at h1; exact h1.elim
theorem r_lst (h : PA X es (TAm T ees)) : PE X (.List es pos) (TEm T (eLst ees)) := peI (pe_lst h) fun σ H Q h => by
  obtain ⟨S, B, rl, h⟩ := h
  refine ⟨S, B, rl, PostR.bind h fun x S1 v H1 B1 r1 l1 q1 h1 => ?_⟩
  by_cases z : x.length ≤ sizeLine
  · rw [if_pos z] at h1
    refine ⟨by rw [← q1.length]; exact z, fun p hp => ?_⟩
    exact h1 _ _ _ (r1.alloc hp _) (Bd.le_add (r1.gnone hp)) (.lst upd_same (q1.le (Bd.le_add (r1.gnone hp))))
  · rw [if_neg z] at h1; exact h1.elim
end
end Mir
/-! Mir3: operators and built-ins by values. -/
namespace Mir
open PySem PySem.Spec PyProof.Rows L2

/-! ### what is frozen may be read -/
section
variable {T : Zu} {S : MS} {σ : L2.St} {H : Hp} {B : Bd}
theorem Rl.rd (r : Rl T S σ H B) {a : Addr} {u : HO} (h : B.G a = some u) : Rd H a u := by
  rcases r.g a u h with ⟨_, q⟩ | ⟨_, _, ob, q⟩
  · exact .inl q
  · exact .inr ⟨ob, q⟩
theorem Rl.tup (r : Rl T S σ H B) {a : Addr} {xs : List V} (h : B.G a = some (.tup xs)) : H a = some (.tup xs) := (r.g a _ h).ex rfl
theorem Rl.sqT (r : Rl T S σ H B) {K : PySem.W.Frag} {a : Addr} {xs : List V} (h : B.G a = some (.tup xs)) : SqT K H a xs := .inl (.inl (r.tup h))
theorem Rl.sqL (r : Rl T S σ H B) {K : PySem.W.Frag} {a : Addr} {xs : List V} (h : SqL K B.G a xs) : SqL K H a xs := by
  rcases h with (h | ⟨o, h⟩) | h
  · exact .inl (r.rd h)
  · exact .inl (.inr ⟨o, (r.g a _ h).ex rfl⟩)
  · exact .inr h
theorem Rl.lst (r : Rl T S σ H B) {a : Addr} {xs : List V} (h : B.G a = some (.lst xs)) : H a = some (.lst xs) := (r.g a _ h).ex rfl
end
theorem RepL.get {T : Cfg} {B : Bd} : ∀ {ds : List D} {vs : List V} {i : Nat} {d : D}, RepL T B ds vs → ds[i]? = some d → ∃ v, vs[i]? = some v ∧ Rep T B d v
  | _, _, _, _, .nil, e => by simp at e
  | _, _, 0, _, .cons r _, e => by simp at e; subst e; exact ⟨_, rfl, r⟩
  | _, _, i + 1, d, .cons _ t, e => by
    obtain ⟨u, h1, h2⟩ := RepL.get (i := i) (d := d) t (by simpa using e)
    exact ⟨u, by simpa using h1, h2⟩
theorem RepL.append {T : Cfg} {B : Bd} : ∀ {xs ys : List D} {us ws : List V}, RepL T B xs us → RepL T B ys ws → RepL T B (xs ++ ys) (us ++ ws)
  | _, _, _, _, .nil, s => s
  | _, _, _, _, .cons r t, s => .cons r (RepL.append t s)
theorem RepL.take {T : Cfg} {B : Bd} : ∀ {xs : List D} {us : List V} (n : Nat), RepL T B xs us → RepL T B (xs.take n) (us.take n)
  | _, _, 0, _ => by simp; exact .nil
  | _, _, _ + 1, .nil => by simp; exact .nil
  | _, _, n + 1, .cons r t => .cons r (RepL.take n t)
theorem RepL.drop {T : Cfg} {B : Bd} : ∀ {xs : List D} {us : List V} (n : Nat), RepL T B xs us → RepL T B (xs.drop n) (us.drop n)
  | _, _, 0, r => r
  | _, _, _ + 1, .nil => by simp; exact .nil
  | _, _, n + 1, .cons r t => RepL.drop n t
theorem RepL.reverse {T : Cfg} {B : Bd} {xs : List D} {us : List V} (h : RepL T B xs us) : RepL T B xs.reverse us.reverse := by
  induction xs generalizing us with
  | nil => cases h; exact .nil
  | cons d ds ih => cases h with | cons r t => rw [List.reverse_cons, List.reverse_cons]; exact RepL.append (ih t) (.cons r .nil)
theorem RepL.rep {T : Cfg} {B : Bd} {xs : List D} {us : List V} (h : RepL T B xs us) : ∀ k : Nat, RepL T B (List.replicate k xs).flatten (List.replicate k us).flatten
  | 0 => .nil
  | k + 1 => by
    rw [List.replicate_succ, List.replicate_succ, List.flatten_cons, List.flatten_cons]
    exact RepL.append h (RepL.rep h k)
theorem RepL.set {T : Cfg} {B : Bd} {d : D} {v : V} (q : Rep T B d v) : ∀ {xs : List D} {us : List V} (i : Nat), RepL T B xs us → RepL T B (xs.set i d) (us.set i v)
  | _, _, _, .nil => .nil
  | _, _, 0, .cons _ t => .cons q t
  | _, _, i + 1, .cons r t => .cons r (RepL.set q i t)
theorem RepL.ints {T : Cfg} {B : Bd} : ∀ (ns : List Int), RepL T B (ns.map D.int) (ns.map V.int)
  | [] => .nil
  | n :: ns => .cons (.int n) (RepL.ints ns)
theorem RepL.nil_iff {T : Cfg} {B : Bd} {xs : List D} {us : List V} (h : RepL T B xs us) : us = [] ↔ xs = [] := by
  cases h with
  | nil => exact ⟨fun _ => rfl, fun _ => rfl⟩
  | cons a b => exact ⟨fun e => (nomatch e), fun e => (nomatch e)⟩
/-- the ints of plain data -/
def intsOf : List D → Option (List Int)
  | [] => some []
  | .int i :: ds => (intsOf ds).map (i :: ·)
  | _ :: _ => none
theorem intsOf_eq : ∀ {ds : List D} {ns : List Int}, intsOf ds = some ns → ds = ns.map D.int
  | [], _, h => by cases h; rfl
  | .int i :: ds, ns, h => by
    unfold intsOf at h
    cases e : intsOf ds with
    | none => rw [e] at h; cases h
    | some ms => rw [e] at h; cases h; rw [List.map_cons, intsOf_eq e]
  | .non :: _, _, h => by cases h
  | .bl _ :: _, _, h => by cases h
  | .str _ :: _, _, h => by cases h
  | .lst _ :: _, _, h => by cases h
  | .tup _ :: _, _, h => by cases h
  | .dic _ _ :: _, _, h => by cases h
  | .ins _ _ :: _, _, h => by cases h
  | .cel _ :: _, _, h => by cases h
  | .scr _ :: _, _, h => by cases h
theorem intsOf_map : ∀ ns : List Int, intsOf (ns.map D.int) = some ns
  | [] => rfl
  | n :: ns => by show (intsOf (ns.map D.int)).map (n :: ·) = _; rw [intsOf_map ns]; rfl
theorem RepL.intsV {T : Cfg} {B : Bd} : ∀ {ns : List Int} {vs : List V}, RepL T B (ns.map D.int) vs → vs = ns.map V.int
  | [], _, .nil => rfl
  | n :: ns, _, .cons r t => by
    cases r
    rw [RepL.intsV t]
    rfl
/-- the bools of plain data -/
def blsOf : List D → Option (List Bool)
  | [] => some []
  | .bl i :: ds => (blsOf ds).map (i :: ·)
  | _ :: _ => none
theorem blsOf_eq : ∀ {ds : List D} {ns : List Bool}, blsOf ds = some ns → ds = ns.map D.bl
  | [], _, h => by cases h; rfl
  | .bl i :: ds, ns, h => by
    unfold blsOf at h
    cases e : blsOf ds with
    | none => rw [e] at h; cases h
    | some ms => rw [e] at h; cases h; rw [List.map_cons, blsOf_eq e]
  | .non :: _, _, h => by cases h
  | .int _ :: _, _, h => by cases h
  | .str _ :: _, _, h => by cases h
  | .lst _ :: _, _, h => by cases h
  | .tup _ :: _, _, h => by cases h
  | .dic _ _ :: _, _, h => by cases h
  | .ins _ _ :: _, _, h => by cases h
  | .cel _ :: _, _, h => by cases h
  | .scr _ :: _, _, h => by cases h
theorem blsOf_map : ∀ ns : List Bool, blsOf (ns.map D.bl) = some ns
  | [] => rfl
  | n :: ns => by show (blsOf (ns.map D.bl)).map (n :: ·) = _; rw [blsOf_map ns]; rfl
theorem RepL.blsV {T : Cfg} {B : Bd} : ∀ {ns : List Bool} {vs : List V}, RepL T B (ns.map D.bl) vs → vs = ns.map V.bl
  | [], _, .nil => rfl
  | n :: ns, _, .cons r t => by
    cases r
    rw [RepL.blsV t]
    rfl

/-! ### arithmetic -/
def intO (C : Int → Int → Prop) [∀ i j, Decidable (C i j)] (f : Int → Int → D) : D → D → Option D
  | .int i, .int j => if C i j then some (f i j) else none
  | _, _ => none
def addO : D → D → Option D
  | .int i, .int j => some (.int (i + j))
  | .str a, .str b => if a.length + b.length ≤ sizeLine then some (.str (a ++ b)) else none
  | .tup xs, .tup ys => if xs.length + ys.length ≤ sizeLine then some (.tup (xs ++ ys)) else none
  | .lst xs, .lst ys => if xs.length + ys.length ≤ sizeLine then some (.lst (xs ++ ys)) else none
  | _, _ => none
def subO : D → D → Option D
  | .int i, .int j => some (.int (i - j))
  | _, _ => none
instance (i j : Int) : Decidable (CMul i j) := inferInstanceAs (Decidable ((-(2 ^ 64) < i ∧ i < 2 ^ 64) ∨ (-(2 ^ 64) < j ∧ j < 2 ^ 64)))
instance (i j : Int) : Decidable (CDiv i j) := inferInstanceAs (Decidable (0 < j ∧ j < 1073741824))
instance (i j : Int) : Decidable (CPow i j) := inferInstanceAs (Decidable (0 ≤ j ∧ j ≤ 1000000 ∧ i.natAbs < 2 ^ 64))
def mulO : D → D → Option D
  | .int i, .int j => if CMul i j then some (.int (i * j)) else none
  | .lst xs, .int k => if -(2 ^ 63) ≤ k ∧ k < 2 ^ 63 ∧ xs.length * k.toNat ≤ sizeLine then some (.lst (List.replicate k.toNat xs).flatten) else none
  | _, _ => none
def fdivO : D → D → Option D
  | .int i, .int j => if CDiv i j then some (.int (i / j)) else none
  | _, _ => none
def modO : D → D → Option D
  | .int i, .int j => if 0 < j then some (.int (i % j)) else none
  | _, _ => none
def powO : D → D → Option D
  | .int i, .int j => if CPow i j then some (.int (i ^ j.toNat)) else none
  | _, _ => none
def negO : D → Option D
  | .int i => some (.int (-i))
  | _ => none
def ltO : D → D → Option D
  | .int i, .int j => some (.bl (decide (i < j)))
  | _, _ => none
def leO : D → D → Option D
  | .int i, .int j => some (.bl (decide (i ≤ j)))
  | _, _ => none
def gtO : D → D → Option D
  | .int i, .int j => some (.bl (decide (j < i)))
  | _, _ => none
def geO : D → D → Option D
  | .int i, .int j => some (.bl (decide (j ≤ i)))
  | _, _ => none

section
variable {T : Cfg}
theorem bin_ii {r : R2} {f : Int → Int → V} {g : D → D → Option D} {fd : Int → Int → D} (C : Int → Int → Prop) (hg : ∀ x y d, g x y = some d → ∃ i j, x = .int i ∧ y = .int j ∧ C i j ∧ d = fd i j) (hf : ∀ B i j, Rep T B (fd i j) (f i j))
    (hr : ∀ i j H (Q : VK), C i j → Q (f i j) H → r (.int i) (.int j) H Q) : Bin T r g := by
  intro Z S σ H B x y d v w Q rl q1 q2 e k
  obtain ⟨i, j, rfl, rfl, c, rfl⟩ := hg x y d e
  cases q1
  cases q2
  exact hr i j H Q c (k _ H B rl .rfl' (hf B i j))
theorem g_sub : Bin T (rI0 fun i j => .int (i - j)) subO := bin_ii (fun _ _ => True) (fun x y d h => by
  cases x <;> cases y <;> first | (cases h; done) | skip
  rename_i i j
  have h' : some (D.int (i - j)) = some d := h
  cases h'
  exact ⟨_, _, rfl, rfl, trivial, rfl⟩) (fun _ _ _ => .int _) fun i j H Q _ q => ⟨i, j, rfl, rfl, q⟩
theorem g_fdiv : Bin T (rI CDiv fun i j => .int (i / j)) fdivO := bin_ii CDiv (fun x y d h => by
  cases x <;> cases y <;> first | (cases h; done) | skip
  rename_i i j
  have h' : (if CDiv i j then some (D.int (i / j)) else none) = some d := h
  by_cases c : CDiv i j
  · rw [if_pos c] at h'; cases h'; exact ⟨_, _, rfl, rfl, c, rfl⟩
  · rw [if_neg c] at h'; cases h') (fun _ _ _ => .int _) fun i j H Q c q => ⟨i, j, rfl, rfl, c, q⟩
theorem g_mod : Bin T (rI (fun _ j => 0 < j) fun i j => .int (i % j)) modO := bin_ii (fun _ j => 0 < j) (fun x y d h => by
  cases x <;> cases y <;> first | (cases h; done) | skip
  rename_i i j
  have h' : (if 0 < j then some (D.int (i % j)) else none) = some d := h
  by_cases c : 0 < j
  · rw [if_pos c] at h'; cases h'; exact ⟨_, _, rfl, rfl, c, rfl⟩
  · rw [if_neg c] at h'; cases h') (fun _ _ _ => .int _) fun i j H Q c q => ⟨i, j, rfl, rfl, c, q⟩
theorem g_pow : Bin T (rI CPow fun i j => .int (i ^ j.toNat)) powO := bin_ii CPow (fun x y d h => by
  cases x <;> cases y <;> first | (cases h; done) | skip
  rename_i i j
  have h' : (if CPow i j then some (D.int (i ^ j.toNat)) else none) = some d := h
  by_cases c : CPow i j
  · rw [if_pos c] at h'; cases h'; exact ⟨_, _, rfl, rfl, c, rfl⟩
  · rw [if_neg c] at h'; cases h') (fun _ _ _ => .int _) fun i j H Q c q => ⟨i, j, rfl, rfl, c, q⟩
theorem g_lt : Bin T (rI0 fun i j => .bl (decide (i < j))) ltO := bin_ii (fun _ _ => True) (fun x y d h => by
  cases x <;> cases y <;> first | (cases h; done) | skip
  rename_i i j
  have h' : some (D.bl (decide (i < j))) = some d := h
  cases h'
  exact ⟨_, _, rfl, rfl, trivial, rfl⟩) (fun _ _ _ => .bl _) fun i j H Q _ q => ⟨i, j, rfl, rfl, q⟩
theorem g_le : Bin T (rI0 fun i j => .bl (decide (i ≤ j))) leO := bin_ii (fun _ _ => True) (fun x y d h => by
  cases x <;> cases y <;> first | (cases h; done) | skip
  rename_i i j
  have h' : some (D.bl (decide (i ≤ j))) = some d := h
  cases h'
  exact ⟨_, _, rfl, rfl, trivial, rfl⟩) (fun _ _ _ => .bl _) fun i j H Q _ q => ⟨i, j, rfl, rfl, q⟩
theorem g_gt : Bin T (rI0 fun i j => .bl (decide (j < i))) gtO := bin_ii (fun _ _ => True) (fun x y d h => by
  cases x <;> cases y <;> first | (cases h; done) | skip
  rename_i i j
  have h' : some (D.bl (decide (j < i))) = some d := h
  cases h'
  exact ⟨_, _, rfl, rfl, trivial, rfl⟩) (fun _ _ _ => .bl _) fun i j H Q _ q => ⟨i, j, rfl, rfl, q⟩
theorem g_ge : Bin T (rI0 fun i j => .bl (decide (j ≤ i))) geO := bin_ii (fun _ _ => True) (fun x y d h => by
  cases x <;> cases y <;> first | (cases h; done) | skip
  rename_i i j
  have h' : some (D.bl (decide (j ≤ i))) = some d := h
  cases h'
  exact ⟨_, _, rfl, rfl, trivial, rfl⟩) (fun _ _ _ => .bl _) fun i j H Q _ q => ⟨i, j, rfl, rfl, q⟩
theorem g_neg : Un1 T (rU fun i => .int (-i)) negO := by
  intro Z S σ H B x d v Q rl q e k
  cases q <;> first | (cases e; done) | skip
  rename_i i
  have e' : some (D.int (-i)) = some d := e
  cases e'
  exact ⟨i, rfl, k _ H B rl .rfl' (.int _)⟩

/-- what + is, by values -/
def rAddM (K : PySem.W.Frag) : R2 := fun x y H Q => (rI0 (fun i j => .int (i + j)) x y H Q ∨ (∃ i j, x = .str i ∧ y = .str j ∧ i.length + j.length ≤ sizeLine ∧ Q (.str (i ++ j)) H)) ∨ (rCatA K x y H Q ∨ rCat x y H Q)
theorem op_addM {X : Cx} : OpR X (binaryOp .Add) (rAddM X.K) := OpR.or (OpR.or op_add op_add_str) (OpR.or op_catA op_cat)
theorem g_add : Bin T (rAddM T.K) addO := by
  intro Z S σ H B x y d v w Q rl q1 q2 e k
  cases q1 <;> cases q2 <;> first | (cases e; done) | skip
  · rename_i i j
    have e' : some (D.int (i + j)) = some d := e
    cases e'
    exact .inl (.inl ⟨i, j, rfl, rfl, k _ H B rl .rfl' (.int _)⟩)
  · rename_i i j
    have e' : (if i.length + j.length ≤ sizeLine then some (D.str (i ++ j)) else none) = some d := e
    by_cases c : i.length + j.length ≤ sizeLine
    · rw [if_pos c] at e'; cases e'
      exact .inl (.inr ⟨i, j, rfl, rfl, c, k _ H B rl .rfl' (.str _)⟩)
    · rw [if_neg c] at e'; cases e'
  · rename_i xs a us ha ra ys b ws hb rb
    have e' : (if xs.length + ys.length ≤ sizeLine then some (D.lst (xs ++ ys)) else none) = some d := e
    by_cases c : xs.length + ys.length ≤ sizeLine
    · rw [if_pos c] at e'; cases e'
      refine .inr (.inr ⟨a, b, us, ws, rfl, rfl, rl.lst ha, rl.lst hb, by rw [← ra.length, ← rb.length]; exact c, fun p hp => ?_⟩)
      have l := Bd.le_add (o := .lst (us ++ ws)) (rl.gnone hp)
      exact k _ _ _ (rl.alloc hp _) l (.lst upd_same (RepL.append (ra.le l) (rb.le l)))
    · rw [if_neg c] at e'; cases e'
  · rename_i xs a us ha ra ys b ws hb rb
    have e' : (if xs.length + ys.length ≤ sizeLine then some (D.tup (xs ++ ys)) else none) = some d := e
    by_cases c : xs.length + ys.length ≤ sizeLine
    · rw [if_pos c] at e'; cases e'
      refine .inr (.inl ⟨a, b, us, ws, rfl, rfl, rl.sqT ha, rl.sqT hb, by rw [← ra.length, ← rb.length]; exact c, fun z => ?_, fun z z2 => ?_, fun _ _ p hp => ?_⟩)
      · have z' := ra.nil_iff.mp z
        subst z'
        exact k _ H B rl .rfl' (.tup hb rb)
      · have z' := rb.nil_iff.mp z2
        subst z'
        rw [List.append_nil] at k
        exact k _ H B rl .rfl' (.tup ha ra)
      · have l := Bd.le_add (o := .tup (us ++ ws)) (rl.gnone hp)
        exact k _ _ _ (rl.alloc hp _) l (.tup upd_same (RepL.append (ra.le l) (rb.le l)))
    · rw [if_neg c] at e'; cases e'
def rMulM : R2 := fun x y H Q => rI CMul (fun i j => .int (i * j)) x y H Q ∨ rRep x y H Q
theorem op_mulM {X : Cx} : OpR X (binaryOp .Mult) rMulM := OpR.or op_mul op_rep
theorem g_mul : Bin T rMulM mulO := by
  intro Z S σ H B x y d v w Q rl q1 q2 e k
  cases q1 <;> cases q2 <;> first | (cases e; done) | skip
  · rename_i i j
    have e' : (if CMul i j then some (D.int (i * j)) else none) = some d := e
    by_cases c : CMul i j
    · rw [if_pos c] at e'; cases e'
      exact .inl ⟨i, j, rfl, rfl, c, k _ H B rl .rfl' (.int _)⟩
    · rw [if_neg c] at e'; cases e'
  · rename_i xs a us ha ra j
    have e' : (if -(2 ^ 63) ≤ j ∧ j < 2 ^ 63 ∧ xs.length * j.toNat ≤ sizeLine then some (D.lst (List.replicate j.toNat xs).flatten) else none) = some d := e
    by_cases c : -(2 ^ 63) ≤ j ∧ j < 2 ^ 63 ∧ xs.length * j.toNat ≤ sizeLine
    · rw [if_pos c] at e'; cases e'
      refine .inr ⟨a, j, us, rfl, rfl, rl.lst ha, c.1, c.2.1, by rw [← ra.length]; exact c.2.2, fun p hp => ?_⟩
      have l := Bd.le_add (o := .lst (List.replicate j.toNat us).flatten) (rl.gnone hp)
      exact k _ _ _ (rl.alloc hp _) l (.lst upd_same (RepL.rep (ra.le l) _))
    · rw [if_neg c] at e'; cases e'
end

/-! ### == of data -/
mutual
def D.py : D → PyData
  | .non => .none
  | .bl b => .bool b
  | .int i => .int i
  | .str s => .str s
  | .lst ds => .list (D.pyL ds)
  | .tup ds => .tuple (D.pyL ds)
  | .dic _ _ => .dict []
  | .ins _ _ => .dict []
  | .cel _ => .dict []
  | .scr _ => .dict []
def D.pyL : List D → List PyData
  | [] => []
  | d :: ds => d.py :: D.pyL ds
end
mutual
/-- data of nesting up to n -/
def D.ok : D → Nat → Bool
  | .non, _ => true
  | .bl _, _ => true
  | .int _, _ => true
  | .str s, _ => PyData.strOk s
  | .lst ds, n => match n with
    | 0 => false
    | m + 1 => D.okL ds m
  | .tup ds, n => match n with
    | 0 => false
    | m + 1 => D.okL ds m
  | .dic _ _, _ => false
  | .ins _ _, _ => false
  | .cel _, _ => false
  | .scr _, _ => false
def D.okL : List D → Nat → Bool
  | [], _ => true
  | d :: ds, n => d.ok n && D.okL ds n
end
mutual
theorem ok_lay : ∀ (d : D) (n : Nat), d.ok n = true → d.py.canLay0 = true ∧ d.py.depth ≤ n
  | .non, _, _ => by simp [D.py, PyData.canLay0, PyData.depth]
  | .bl _, _, _ => by simp [D.py, PyData.canLay0, PyData.depth]
  | .int _, _, _ => by simp [D.py, PyData.canLay0, PyData.depth]
  | .str s, _, h => by simpa [D.py, PyData.canLay0, PyData.depth, D.ok] using h
  | .lst ds, 0, h => by simp [D.ok] at h
  | .lst ds, n + 1, h => by
    have h' : D.okL ds n = true := by simpa [D.ok] using h
    obtain ⟨a, b⟩ := ok_layL ds n h'
    simp only [D.py, PyData.canLay0, PyData.depth]
    exact ⟨a, by omega⟩
  | .tup ds, 0, h => by simp [D.ok] at h
  | .tup ds, n + 1, h => by
    have h' : D.okL ds n = true := by simpa [D.ok] using h
    obtain ⟨a, b⟩ := ok_layL ds n h'
    simp only [D.py, PyData.canLay0, PyData.depth]
    exact ⟨a, by omega⟩
  | .dic _ _, _, h => by simp [D.ok] at h
  | .ins _ _, _, h => by simp [D.ok] at h
  | .cel _, _, h => by simp [D.ok] at h
  | .scr _, _, h => by simp [D.ok] at h
theorem ok_layL : ∀ (ds : List D) (n : Nat), D.okL ds n = true → PyData.canLayAll0 (D.pyL ds) = true ∧ PyData.depthAll (D.pyL ds) ≤ n
  | [], _, _ => by simp [D.pyL, PyData.canLayAll0, PyData.depthAll]
  | d :: ds, n, h => by
    have h' : d.ok n = true ∧ D.okL ds n = true := by simpa [D.okL, Bool.and_eq_true] using h
    obtain ⟨a, b⟩ := ok_lay d n h'.1
    obtain ⟨a', b'⟩ := ok_layL ds n h'.2
    simp only [D.pyL, PyData.canLayAll0, PyData.depthAll, a, a', Bool.and_self]
    exact ⟨trivial, by omega⟩
end
theorem ok_shaped {d : D} (h : d.ok 60 = true) : SeqAt.shaped d.py = true := by
  obtain ⟨a, b⟩ := ok_lay d 60 h
  show (d.py.canLay0 && decide (d.py.depth ≤ 64)) = true
  rw [a, decide_eq_true (by omega)]
  rfl
section
variable {T : Zu} {S : MS} {σ : L2.St} {H : Hp} {B : Bd}
mutual
theorem Rep.dp (rl : Rl T S σ H B) : ∀ {d : D} {v : V} {n : Nat}, Rep T.toCfg B d v → d.ok n = true → Dp T.K H v d.py
  | _, _, _, .non, _ => by unfold D.py; exact .non
  | _, _, _, .bl b, _ => by unfold D.py; exact .bl b
  | _, _, _, .int i, _ => by unfold D.py; exact .int i
  | _, _, _, .str s, _ => by unfold D.py; exact .str s
  | _, _, 0, .lst _ _, h => by simp [D.ok] at h
  | _, _, n + 1, .lst q r, h => by
    unfold D.py
    exact .lst (SqL.of (rl.lst q)) (r.dp rl (n := n) (by simpa [D.ok] using h))
  | _, _, 0, .tup _ _, h => by simp [D.ok] at h
  | _, _, n + 1, .tup q r, h => by
    unfold D.py
    exact .tup (rl.sqT q) (r.dp rl (n := n) (by simpa [D.ok] using h))
  | _, _, _, .dic _ _, h => by simp [D.ok] at h
  | _, _, _, .dit _ _, h => by simp [D.ok] at h
  | _, _, _, .ins _ _ _, h => by simp [D.ok] at h
  | _, _, _, .cel _, h => by simp [D.ok] at h
  | _, _, _, .scr _, h => by simp [D.ok] at h
theorem RepL.dp (rl : Rl T S σ H B) : ∀ {ds : List D} {vs : List V} {n : Nat}, RepL T.toCfg B ds vs → D.okL ds n = true → DpAll T.K H vs (D.pyL ds)
  | _, _, _, .nil, _ => by unfold D.pyL; exact .nil
  | _, _, n, .cons r t, h => by
    have h' := h
    simp only [D.okL, Bool.and_eq_true] at h'
    unfold D.pyL
    exact .cons (r.dp rl h'.1) (t.dp rl h'.2)
end
end
def eqO (x y : D) : Option D := if x.ok 60 && y.ok 60 then some (.bl (PyData.eqv x.py y.py)) else none
def neO (x y : D) : Option D := if x.ok 60 && y.ok 60 then some (.bl (!PyData.eqv x.py y.py)) else none
section
variable {T : Cfg}
theorem g_eq : Bin T (rEqD T.K) eqO := by
  intro Z S σ H B x y d v w Q rl q1 q2 e k
  unfold eqO at e
  by_cases c : (x.ok 60 && y.ok 60) = true
  · rw [if_pos c] at e; cases e
    rw [Bool.and_eq_true] at c
    exact ⟨_, _, Rep.dp rl q1 c.1, Rep.dp rl q2 c.2, ok_shaped c.1, ok_shaped c.2, k _ H B rl .rfl' (.bl _)⟩
  · rw [if_neg c] at e; cases e
theorem g_ne : Bin T (rNeD T.K) neO := by
  intro Z S σ H B x y d v w Q rl q1 q2 e k
  unfold neO at e
  by_cases c : (x.ok 60 && y.ok 60) = true
  · rw [if_pos c] at e; cases e
    rw [Bool.and_eq_true] at c
    exact ⟨_, _, Rep.dp rl q1 c.1, Rep.dp rl q2 c.2, ok_shaped c.1, ok_shaped c.2, k _ H B rl .rfl' (.bl _)⟩
  · rw [if_neg c] at e; cases e
/-- is None -/
def isNO : D → D → Option D
  | .non, .non => some (.bl true)
  | _, .non => some (.bl false)
  | _, _ => none
def notNO : D → D → Option D
  | .non, .non => some (.bl false)
  | _, .non => some (.bl true)
  | _, _ => none
theorem g_isN : Bin T (fun x y H Q => y = .non ∧ Q (.bl (decide (x = .non))) H) isNO := by
  intro Z S σ H B x y d v w Q rl q1 q2 e k
  cases q2 <;> first | (cases x <;> cases e; done) | skip
  refine ⟨rfl, ?_⟩
  cases q1 <;> (cases e; exact k _ H B rl .rfl' (.bl _))
theorem g_notN : Bin T (fun x y H Q => y = .non ∧ Q (.bl (!decide (x = .non))) H) notNO := by
  intro Z S σ H B x y d v w Q rl q1 q2 e k
  cases q2 <;> first | (cases x <;> cases e; done) | skip
  refine ⟨rfl, ?_⟩
  cases q1 <;> (cases e; exact k _ H B rl .rfl' (.bl _))
/-- in: a list of data, a text in a text -/
def inO : D → D → Option D
  | x, .lst ds => if x.ok 60 && (D.lst ds).ok 60 then some (.bl ((D.pyL ds).any fun z => PyData.eqv z x.py)) else none
  | .str i, .str j => some (.bl (!(Builtin.Str.occurrences j i 0 j.length 1).isEmpty))
  | _, _ => none
def notInO : D → D → Option D
  | x, .lst ds => if x.ok 60 && (D.lst ds).ok 60 then some (.bl (!(D.pyL ds).any fun z => PyData.eqv z x.py)) else none
  | .str i, .str j => some (.bl (!(!(Builtin.Str.occurrences j i 0 j.length 1).isEmpty)))
  | _, _ => none
def rInM (K : PySem.W.Frag) : R2 := fun x y H Q => rInD K x y H Q ∨ (∃ i j, x = .str i ∧ y = .str j ∧ Q (.bl (!(Builtin.Str.occurrences j i 0 j.length 1).isEmpty)) H)
def rNotInM (K : PySem.W.Frag) : R2 := fun x y H Q => rNotInD K x y H Q ∨ (∃ i j, x = .str i ∧ y = .str j ∧ Q (.bl (!(!(Builtin.Str.occurrences j i 0 j.length 1).isEmpty))) H)
theorem op_inM {X : Cx} (hu : X.A.units + 65 < cLine) : OpR X (compareOp .In) (rInM X.K) := OpR.or (op_inD hu) op_in_str
theorem op_notInM {X : Cx} (hu : X.A.units + 65 < cLine) : OpR X (compareOp .NotIn) (rNotInM X.K) := OpR.or (op_notInD hu) op_notIn_str
theorem pyL_lst {ds : List D} : (D.lst ds).py = .list (D.pyL ds) := by rw [D.py]
theorem in_lst {K : PySem.W.Frag} {Z : Addr → Value → Option Addr → Prop} {S : MS} {σ : L2.St} {H : Hp} {B : Bd} {x : D} {v w : V} {ds : List D} (rl : Rl ⟨T, Z⟩ S σ H B) (q1 : Rep T B x v) (q2 : Rep T B (.lst ds) w) (c : (x.ok 60 && (D.lst ds).ok 60) = true) :
    Dp T.K H v x.py ∧ Dp T.K H w (.list (D.pyL ds)) ∧ SeqAt.shaped x.py = true ∧ SeqAt.shaped (.list (D.pyL ds)) = true := by
  rw [Bool.and_eq_true] at c
  have h2 := Rep.dp rl q2 c.2
  have h3 := ok_shaped c.2
  rw [pyL_lst] at h2 h3
  exact ⟨Rep.dp rl q1 c.1, h2, ok_shaped c.1, h3⟩
theorem g_in : Bin T (rInM T.K) inO := by
  intro Z S σ H B x y d v w Q rl q1 q2 e k
  have q2' := q2
  cases q2 <;> first | (cases x <;> cases e; done) | skip
  · rename_i s
    cases q1 <;> first | (cases e; done) | skip
    rename_i i
    cases e
    exact .inr ⟨i, s, rfl, rfl, k _ H B rl .rfl' (.bl _)⟩
  · rename_i ds a xs ha ra
    have e' : (if x.ok 60 && (D.lst ds).ok 60 then some (D.bl ((D.pyL ds).any fun z => PyData.eqv z x.py)) else none) = some d := by cases x <;> exact e
    by_cases c : (x.ok 60 && (D.lst ds).ok 60) = true
    · rw [if_pos c] at e'; cases e'
      obtain ⟨h1, h2, h3, h4⟩ := in_lst (K := T.K) rl q1 q2' c
      exact .inl ⟨_, _, h1, h2, h3, h4, k _ H B rl .rfl' (.bl _)⟩
    · rw [if_neg c] at e'; cases e'
theorem g_notIn : Bin T (rNotInM T.K) notInO := by
  intro Z S σ H B x y d v w Q rl q1 q2 e k
  have q2' := q2
  cases q2 <;> first | (cases x <;> cases e; done) | skip
  · rename_i s
    cases q1 <;> first | (cases e; done) | skip
    rename_i i
    cases e
    exact .inr ⟨i, s, rfl, rfl, k _ H B rl .rfl' (.bl _)⟩
  · rename_i ds a xs ha ra
    have e' : (if x.ok 60 && (D.lst ds).ok 60 then some (D.bl (!(D.pyL ds).any fun z => PyData.eqv z x.py)) else none) = some d := by cases x <;> exact e
    by_cases c : (x.ok 60 && (D.lst ds).ok 60) = true
    · rw [if_pos c] at e'; cases e'
      obtain ⟨h1, h2, h3, h4⟩ := in_lst (K := T.K) rl q1 q2' c
      exact .inl ⟨_, _, h1, h2, h3, h4, k _ H B rl .rfl' (.bl _)⟩
    · rw [if_neg c] at e'; cases e'
end
end Mir
/-! Mir4: built-in calls, subscripts, slices, dicts by values. -/
namespace Mir
open PySem PySem.Spec PyProof.Rows L2

/-! ### calls by values -/
def eB (g : List D → Option D) (as : Exps) : Exp := fun S => (as S).bind fun xs S1 => liftO S1 (g xs)
def Bi (T : Cfg) (r : List V → Hp → VK → Prop) (g : List D → Option D) : Prop := ∀ {Z S σ H B xs d vs} {Q : VK}, Rl ⟨T, Z⟩ S σ H B → RepL T B xs vs → g xs = some d →
  (∀ u H' B', Rl ⟨T, Z⟩ S σ H' B' → B.le B' → Rep T B' d u → Q u H') → r vs H Q
section
variable {X : Cx} {T : Su} {x : Str} {p pos : Pos} {e : Expr} {es : List Expr} {ees : Exps} {id ty : String} {r : List V → Hp → VK → Prop} {g : List D → Option D}
theorem b_of (hg : Bi T.toCfg r g) {σ : L2.St} {H : Hp} {Q : VK} (h : TEm T (eB g ees) σ H Q) : tCB r (TAm T ees) σ H Q := by
  obtain ⟨S, B, rl, h⟩ := h
  refine ⟨S, B, rl, PostR.bind h fun xs S1 vs H1 B1 r1 l1 q1 h1 => ?_⟩
  obtain ⟨d, e, k⟩ := liftO_post h1
  exact hg (Z := T.Z) r1 q1 e k
theorem r_callB (hc : CallR X (.builtin id) r) (hgb : Bi T.toCfg r g) (hg : Gl X x) (hm : X.mg x = none) (hv : bootBuiltins x = some (.builtin id)) (ha : PA X (e :: es) (TAm T ees)) (hn : x ≠ "__name__" := by decide) (hdb : (x == ("__debug__" : Str)) = false := by decide)
    (he : starEach (e :: es) X.env = (false, eval e X.env) :: starEach es X.env := by rfl) (hpl : (backTo pos (starEach es X.env)).any (·.1) = false := by rfl) : PE X (.Call (.Name x p) (e :: es) [] pos) (TEm T (eB g ees)) :=
  peI (pe_callB hc hg hm hv ha hn hdb he hpl) fun _ _ _ h => b_of hgb h
theorem r_callTy (hc : CallR X (.type ty) r) (hgb : Bi T.toCfg r g) (hg : Gl X x) (hm : X.mg x = none) (hv : bootBuiltins x = some (.type ty)) (ha : PA X (e :: es) (TAm T ees)) (hn : x ≠ "__name__" := by decide) (hdb : (x == ("__debug__" : Str)) = false := by decide)
    (he : starEach (e :: es) X.env = (false, eval e X.env) :: starEach es X.env := by rfl) (hpl : (backTo pos (starEach es X.env)).any (·.1) = false := by rfl) : PE X (.Call (.Name x p) (e :: es) [] pos) (TEm T (eB g ees)) :=
  peI (pe_callTy hc hg hm hv ha hn hdb he hpl) fun _ _ _ h => b_of hgb h
end
theorem RepL.one {T : Cfg} {B : Bd} {x : D} {vs : List V} (h : RepL T B [x] vs) : ∃ v, vs = [v] ∧ Rep T B x v := by
  cases h with | cons a b => cases b; exact ⟨_, rfl, a⟩
theorem RepL.two {T : Cfg} {B : Bd} {x y : D} {vs : List V} (h : RepL T B [x, y] vs) : ∃ v w, vs = [v, w] ∧ Rep T B x v ∧ Rep T B y w := by
  cases h with | cons a b => cases b with | cons c d => cases d; exact ⟨_, _, rfl, a, c⟩

/-! ### keys -/
def D.key : D → Option Key
  | .int i => some (.inl i)
  | .str s => some (.inr s)
  | _ => none
def D.keys : List D → Option (List Key)
  | [] => some []
  | d :: ds => match d.key, D.keys ds with
    | some k, some ks => some (k :: ks)
    | _, _ => none
def D.keyT : D → Option (List Key)
  | .tup ds => D.keys ds
  | _ => none
/-- the same key -/
def D.keq (a b : D) : Bool := match a.key, b.key with
  | some x, some y => decide (x = y)
  | _, _ => match a.keyT, b.keyT with
    | some xs, some ys => decide (xs = ys)
    | _, _ => false
def dlook (kvs : List (D × D)) (k : D) : Option D := (kvs.find? fun p => p.1.keq k).map (·.2)
def dput (kvs : List (D × D)) (k d : D) : List (D × D) := if kvs.any (fun p => p.1.keq k) then kvs.map fun p => if p.1.keq k then (p.1, d) else p else kvs ++ [(k, d)]
/-- a key that a dict of this kind takes -/
def keyFor (t : Bool) (k : D) : Bool := if t then k.keyT.isSome else k.key.isSome
theorem key_kD : ∀ k : Key, (kD k).key = some k
  | .inl _ => rfl
  | .inr _ => rfl
theorem keys_kD : ∀ ks : List Key, D.keys (ks.map kD) = some ks
  | [] => rfl
  | k :: ks => by show (match (kD k).key, D.keys (ks.map kD) with | some k, some ks => some (k :: ks) | _, _ => none) = _; rw [key_kD, keys_kD ks]
theorem key_eq : ∀ {d : D} {k : Key}, d.key = some k → d = kD k
  | .int i, _, h => by cases h; rfl
  | .str s, _, h => by cases h; rfl
  | .non, _, h => by cases h
  | .bl _, _, h => by cases h
  | .lst _, _, h => by cases h
  | .tup _, _, h => by cases h
  | .dic _ _, _, h => by cases h
  | .ins _ _, _, h => by cases h
  | .cel _, _, h => by cases h
  | .scr _, _, h => by cases h
theorem keys_eq : ∀ {ds : List D} {ks : List Key}, D.keys ds = some ks → ds = ks.map kD
  | [], _, h => by cases h; rfl
  | d :: ds, ks, h => by
    unfold D.keys at h
    cases e1 : d.key with
    | none => rw [e1] at h; cases h
    | some k =>
      cases e2 : D.keys ds with
      | none => rw [e1, e2] at h; cases h
      | some r =>
        rw [e1, e2] at h
        cases h
        rw [key_eq e1, keys_eq e2]
        rfl
theorem keyT_eq {d : D} {ks : List Key} (h : d.keyT = some ks) : d = .tup (ks.map kD) := by
  cases d <;> first | (cases h; done) | skip
  rw [keys_eq h]
theorem keq_k {a b : Key} : (kD a).keq (kD b) = decide (a = b) := by
  unfold D.keq
  rw [key_kD, key_kD]
theorem keq_t {a b : List Key} : (D.tup (a.map kD)).keq (.tup (b.map kD)) = decide (a = b) := by
  show (match D.keys (a.map kD), D.keys (b.map kD) with | some xs, some ys => decide (xs = ys) | _, _ => false) = _
  rw [keys_kD, keys_kD]
theorem rep_key {T : Cfg} {B : Bd} {k : Key} {v : V} (h : Rep T B (kD k) v) : v = kV k := by
  cases k <;> (cases h; rfl)
theorem rep_keys {T : Cfg} {B : Bd} : ∀ {ks : List Key} {vs : List V}, RepL T B (ks.map kD) vs → vs = ks.map kV
  | [], _, .nil => rfl
  | k :: ks, _, .cons a b => by rw [rep_key a, rep_keys b]; rfl
theorem key_rep {T : Cfg} {B : Bd} : ∀ k : Key, Rep T B (kD k) (kV k)
  | .inl i => .int i
  | .inr s => .str s
theorem keys_rep {T : Cfg} {B : Bd} : ∀ ks : List Key, RepL T B (ks.map kD) (ks.map kV)
  | [] => .nil
  | k :: ks => .cons (key_rep k) (keys_rep ks)
/-- what two look-ups have in common -/
def RepO (T : Cfg) (B : Bd) : Option D → Option V → Prop
  | some d, some v => Rep T B d v
  | none, none => True
  | _, _ => False
theorem RepK.val {T : Cfg} {B : Bd} (k : Key) : ∀ {kvs : List (D × D)} {ks : List (Key × V)}, RepK T B kvs ks → RepO T B (dlook kvs (kD k)) (valV ks k)
  | _, _, .nil => trivial
  | _, _, .cons (k := k') (d := d) (ds := ds) (v := v) (vs := vs) a b => by
    have ih := RepK.val k b
    by_cases e : k' = k
    · have h1 : dlook ((kD k', d) :: ds) (kD k) = some d := by simp [dlook, List.find?_cons, keq_k, e]
      rw [h1, valV_pos e]
      exact a
    · have h1 : dlook ((kD k', d) :: ds) (kD k) = dlook ds (kD k) := by simp [dlook, List.find?_cons, keq_k, e]
      rw [h1, valV_neg e]
      exact ih
theorem RepT.val {T : Cfg} {B : Bd} (k : List Key) : ∀ {kvs : List (D × D)} {ks : List (List Key × V)}, RepT T B kvs ks → RepO T B (dlook kvs (.tup (k.map kD))) (valV ks k)
  | _, _, .nil => trivial
  | _, _, .cons (k := k') (d := d) (ds := ds) (v := v) (vs := vs) a b => by
    have ih := RepT.val k b
    by_cases e : k' = k
    · have h1 : dlook ((.tup (k'.map kD), d) :: ds) (.tup (k.map kD)) = some d := by simp [dlook, List.find?_cons, keq_t, e]
      rw [h1, valV_pos e]
      exact a
    · have h1 : dlook ((.tup (k'.map kD), d) :: ds) (.tup (k.map kD)) = dlook ds (.tup (k.map kD)) := by simp [dlook, List.find?_cons, keq_t, e]
      rw [h1, valV_neg e]
      exact ih
theorem RepK.append {T : Cfg} {B : Bd} : ∀ {xs ys : List (D × D)} {us ws : List (Key × V)}, RepK T B xs us → RepK T B ys ws → RepK T B (xs ++ ys) (us ++ ws)
  | _, _, _, _, .nil, s => s
  | _, _, _, _, .cons r t, s => .cons r (RepK.append t s)
theorem RepT.append {T : Cfg} {B : Bd} : ∀ {xs ys : List (D × D)} {us ws : List (List Key × V)}, RepT T B xs us → RepT T B ys ws → RepT T B (xs ++ ys) (us ++ ws)
  | _, _, _, _, .nil, s => s
  | _, _, _, _, .cons r t, s => .cons r (RepT.append t s)
theorem RepK.length {T : Cfg} {B : Bd} : ∀ {ds : List (D × D)} {vs : List (Key × V)}, RepK T B ds vs → ds.length = vs.length
  | _, _, .nil => rfl
  | _, _, .cons _ t => congrArg (· + 1) t.length
theorem RepT.length {T : Cfg} {B : Bd} : ∀ {ds : List (D × D)} {vs : List (List Key × V)}, RepT T B ds vs → ds.length = vs.length
  | _, _, .nil => rfl
  | _, _, .cons _ t => congrArg (· + 1) t.length
theorem RepK.put {T : Cfg} {B : Bd} {kvs : List (D × D)} {ks : List (Key × V)} (h : RepK T B kvs ks) (k : Key) {d : D} {v : V} (q : Rep T B d v) : RepK T B (dput kvs (kD k) d) (putK ks k v) := by
  have any : ∀ {kvs : List (D × D)} {ks : List (Key × V)}, RepK T B kvs ks → (kvs.any fun p => p.1.keq (kD k)) = ks.any fun p => decide (p.1 = k) := by
    intro kvs ks h
    induction ks generalizing kvs with
    | nil => cases h; rfl
    | cons p ps ih => cases h with | cons a b => rw [List.any_cons, List.any_cons, ih b, keq_k]
  have map : ∀ {kvs : List (D × D)} {ks : List (Key × V)}, RepK T B kvs ks → RepK T B (kvs.map fun p => if p.1.keq (kD k) then (p.1, d) else p) (ks.map fun kv => if kv.1 = k then (kv.1, v) else kv) := by
    intro kvs ks h
    induction ks generalizing kvs with
    | nil => cases h; exact .nil
    | cons p ps ih =>
      cases h with
      | cons a b =>
        rename_i k' d' ds' v'
        rw [List.map_cons, List.map_cons]
        by_cases e : k' = k
        · rw [if_pos (by rw [keq_k, decide_eq_true e]), if_pos e]
          exact .cons q (ih b)
        · rw [if_neg (by rw [keq_k, decide_eq_false e]; decide), if_neg e]
          exact .cons a (ih b)
  unfold dput putK
  rw [any h]
  by_cases c : (ks.any fun p => decide (p.1 = k)) = true
  · rw [if_pos c, if_pos c]; exact map h
  · rw [if_neg c, if_neg c]; exact RepK.append h (.cons q .nil)
theorem RepT.put {T : Cfg} {B : Bd} {kvs : List (D × D)} {ks : List (List Key × V)} (h : RepT T B kvs ks) (k : List Key) {d : D} {v : V} (q : Rep T B d v) : RepT T B (dput kvs (.tup (k.map kD)) d) (putK ks k v) := by
  have any : ∀ {kvs : List (D × D)} {ks : List (List Key × V)}, RepT T B kvs ks → (kvs.any fun p => p.1.keq (.tup (k.map kD))) = ks.any fun p => decide (p.1 = k) := by
    intro kvs ks h
    induction ks generalizing kvs with
    | nil => cases h; rfl
    | cons p ps ih => cases h with | cons a b => rw [List.any_cons, List.any_cons, ih b, keq_t]
  have map : ∀ {kvs : List (D × D)} {ks : List (List Key × V)}, RepT T B kvs ks → RepT T B (kvs.map fun p => if p.1.keq (.tup (k.map kD)) then (p.1, d) else p) (ks.map fun kv => if kv.1 = k then (kv.1, v) else kv) := by
    intro kvs ks h
    induction ks generalizing kvs with
    | nil => cases h; exact .nil
    | cons p ps ih =>
      cases h with
      | cons a b =>
        rename_i k' d' ds' v'
        rw [List.map_cons, List.map_cons]
        by_cases e : k' = k
        · rw [if_pos (by rw [keq_t, decide_eq_true e]), if_pos e]
          exact .cons q (ih b)
        · rw [if_neg (by rw [keq_t, decide_eq_false e]; decide), if_neg e]
          exact .cons a (ih b)
  unfold dput putK
  rw [any h]
  by_cases c : (ks.any fun p => decide (p.1 = k)) = true
  · rw [if_pos c, if_pos c]; exact map h
  · rw [if_neg c, if_neg c]; exact RepT.append h (.cons q .nil)
theorem dput_length (kvs : List (D × D)) (k d : D) : (dput kvs k d).length ≤ kvs.length + 1 := by
  unfold dput
  split
  · rw [List.length_map]; exact Nat.le_succ _
  · rw [List.length_append]; exact Nat.le_refl _

/-- a look-up, by values -/
theorem dget_of {T : Cfg} {Z : Addr → Value → Option Addr → Prop} {S : MS} {σ : L2.St} {H : Hp} {B : Bd} {t : Bool} {kvs : List (D × D)} {k : D} {v w : V} (rl : Rl ⟨T, Z⟩ S σ H B) (q1 : Rep T B (.dic t kvs) v) (q2 : Rep T B k w) (hk : keyFor t k = true) :
    ∃ a o, v = .ref a ∧ DGet H a w o ∧ RepO T B (dlook kvs k) o := by
  cases q1 with
  | dic hd r =>
    rename_i a ks
    have hk' : k.key.isSome = true := hk
    cases e : k.key with
    | none => rw [e] at hk'; cases hk'
    | some k0 =>
      have e' := key_eq e
      subst e'
      rw [rep_key q2]
      exact ⟨a, _, rfl, .inl ⟨ks, k0, rl.rd hd, rfl, rfl⟩, r.val k0⟩
  | dit hd r =>
    rename_i a ks
    have hk' : k.keyT.isSome = true := hk
    cases e : k.keyT with
    | none => rw [e] at hk'; cases hk'
    | some k0 =>
      have e' := keyT_eq e
      subst e'
      cases q2 with
      | tup hb rb =>
        rename_i b xs
        have hx := rep_keys rb
        subst hx
        exact ⟨a, _, rfl, .inr ⟨ks, k0, b, rl.rd hd, rfl, rl.tup hb, rfl⟩, r.val k0⟩
end Mir
/-! Mir5: subscripts, slices, built-ins of one list or value, isinstance. -/
namespace Mir
open PySem PySem.Spec PyProof.Rows L2

/-! ### a[b] -/
def ixO : D → D → Option D
  | .lst ds, .int i => atI ds i
  | .tup ds, .int i => atI ds i
  | .str z, .int i => if z.length ≤ sizeLine then (atI z.cps.toList i).map fun c => .str ⟨#[c]⟩ else none
  | .scr ns, .int i => (atI ns i).map D.int
  | .dic t kvs, k => if keyFor t k = true then dlook kvs k else none
  | _, _ => none
def rIxD : R2 := fun x y H Q => ∃ a v, x = .ref a ∧ DGet H a y (some v) ∧ Q v H
theorem ix_dict {X : Cx} (hu : X.A.units + 1 < cLine) : IxR X rIxD := by
  intro value slice pins s σ H x y v u Q I rx ry h hs
  obtain ⟨a, z, rfl, g, q⟩ := h
  obtain rfl : v = Value.ref a := rx
  exact tail_any (dict_typeIs I g) PySem.F.slot_dict_getitem.lookup (d_getItem hu I g ry fun w' s3 I3 rw' => ⟨z, H, I3, rw', q⟩) hs
def rIxM (K : PySem.W.Frag) : R2 := fun x y H Q => rIx K x y H Q ∨ rIxD x y H Q
theorem ix_M {X : Cx} (hu : X.A.units + 1 < cLine) : IxR X (rIxM X.K) := ix_seq.or (ix_dict hu)
theorem atI_rep {T : Cfg} {B : Bd} {ds : List D} {vs : List V} {i : Int} {d : D} (h : RepL T B ds vs) (e : atI ds i = some d) : ∃ v, atI vs i = some v ∧ Rep T B d v := by
  unfold atI at *
  rw [← h.length]
  cases e1 : ixN ds.length i with
  | none => rw [e1] at e; cases e
  | some j =>
    rw [e1] at e
    exact h.get (show ds[j]? = some d from e)
theorem atI_map {α β : Type} (f : α → β) (xs : List α) (i : Int) : atI (xs.map f) i = (atI xs i).map f := by
  unfold atI
  rw [List.length_map]
  cases ixN xs.length i with
  | none => rfl
  | some j => show (xs.map f)[j]? = (xs[j]?).map f; rw [List.getElem?_map]
theorem g_ix {T : Cfg} : Bin T (rIxM T.K) ixO := by
  intro Z S σ H B x y d v w Q rl q1 q2 e k
  have q1' := q1
  cases q1
  case lst ds a xs ha ra =>
    cases q2 <;> first | (cases e; done) | skip
    rename_i i
    obtain ⟨z, e2, rz⟩ := atI_rep ra (show atI ds i = some d from e)
    exact .inl (.inl ⟨a, xs, i, z, rfl, rfl, .inl (.inl (rl.lst ha)), e2, k _ H B rl .rfl' rz⟩)
  case tup ds a xs ha ra =>
    cases q2 <;> first | (cases e; done) | skip
    rename_i i
    obtain ⟨z, e2, rz⟩ := atI_rep ra (show atI ds i = some d from e)
    exact .inl (.inr (.inl ⟨a, xs, i, z, rfl, rfl, rl.sqT ha, e2, k _ H B rl .rfl' rz⟩))
  case str z =>
    cases q2 <;> first | (cases e; done) | skip
    rename_i i
    have e' : (if z.length ≤ sizeLine then (atI z.cps.toList i).map fun c => D.str ⟨#[c]⟩ else none) = some d := e
    by_cases c : z.length ≤ sizeLine
    · rw [if_pos c] at e'
      obtain ⟨ch, e2, e3⟩ := Option.map_eq_some_iff.mp e'
      subst e3
      exact .inl (.inr (.inr ⟨z, i, ch, rfl, rfl, c, e2, k _ H B rl .rfl' (.str _)⟩))
    · rw [if_neg c] at e'; cases e'
  case scr ns a ha =>
    cases q2 <;> first | (cases e; done) | skip
    rename_i i
    obtain ⟨n, e2, e3⟩ := Option.map_eq_some_iff.mp (show (atI ns i).map D.int = some d from e)
    subst e3
    exact .inl (.inl ⟨a, _, i, .int n, rfl, rfl, rl.sqL ha, by rw [atI_map, e2]; rfl, k _ H B rl .rfl' (.int _)⟩)
  case dic kvs a ks ha ra =>
    have e' : (if keyFor false y = true then dlook kvs y else none) = some d := by cases y <;> exact e
    by_cases c : keyFor false y = true
    · rw [if_pos c] at e'
      obtain ⟨a', o, e1, g, ro⟩ := dget_of rl q1' q2 c
      rw [e'] at ro
      cases o with
      | none => exact ro.elim
      | some z => exact .inr ⟨a', z, e1, g, k _ H B rl .rfl' ro⟩
    · rw [if_neg c] at e'; cases e'
  case dit kvs a ks ha ra =>
    have e' : (if keyFor true y = true then dlook kvs y else none) = some d := by cases y <;> exact e
    by_cases c : keyFor true y = true
    · rw [if_pos c] at e'
      obtain ⟨a', o, e1, g, ro⟩ := dget_of rl q1' q2 c
      rw [e'] at ro
      cases o with
      | none => exact ro.elim
      | some z => exact .inr ⟨a', z, e1, g, k _ H B rl .rfl' ro⟩
    · rw [if_neg c] at e'; cases e'
  all_goals (cases y <;> cases e)
theorem r_ix {X : Cx} {T : Su} {pos : Pos} {a b : Expr} {ea eb : Exp} (hK : T.K = X.K) (hu : X.A.units + 1 < cLine) (ha : PE X a (TEm T ea)) (hb : PE X b (TEm T eb)) (hs : PlainIx b := by exact fun _ _ => rfl) : PE X (.Subscript a b pos) (TEm T (eBin ixO ea eb)) :=
  peI (pe_ix (hK ▸ ix_M hu) ha hb hs) fun _ _ _ h => bin_of g_ix h

/-! ### in a dict -/
def inDO (neg : Bool) : D → D → Option D
  | k, .dic t kvs => if keyFor t k = true then some (.bl (if neg then !(dlook kvs k).isSome else (dlook kvs k).isSome)) else none
  | _, _ => none
def rInDic (neg : Bool) : R2 := fun y x H Q => ∃ a o, x = .ref a ∧ DGet H a y o ∧ Q (.bl (if neg then !o.isSome else o.isSome)) H
theorem op_inDic {X : Cx} (hu : X.A.units + 1 < cLine) : OpR X (compareOp .In) (rInDic false) := by
  intro pins s σ H y x u v Q I ry rx h
  obtain ⟨a, o, rfl, g, q⟩ := h
  obtain rfl : v = Value.ref a := rx
  exact d_in hu I g ry fun s3 I3 => ⟨.bl o.isSome, H, I3, rfl, q⟩
theorem op_notInDic {X : Cx} (hu : X.A.units + 1 < cLine) : OpR X (compareOp .NotIn) (rInDic true) := by
  intro pins s σ H y x u v Q I ry rx h
  obtain ⟨a, o, rfl, g, q⟩ := h
  obtain rfl : v = Value.ref a := rx
  exact d_notIn hu I g ry fun s3 I3 => ⟨.bl (!o.isSome), H, I3, rfl, q⟩
theorem RepO.some {T : Cfg} {B : Bd} {o : Option D} {u : Option V} (h : RepO T B o u) : o.isSome = u.isSome := by
  cases o <;> cases u <;> first | rfl | exact h.elim
theorem g_inDic {T : Cfg} (neg : Bool) : Bin T (rInDic neg) (inDO neg) := by
  intro Z S σ H B x y d v w Q rl q1 q2 e k
  have q2' := q2
  cases q2 <;> first | (cases x <;> cases e; done) | skip
  · rename_i kvs a ks ha ra
    have e' : (if keyFor false x = true then some (D.bl (if neg then !(dlook kvs x).isSome else (dlook kvs x).isSome)) else none) = some d := by cases x <;> exact e
    by_cases c : keyFor false x = true
    · rw [if_pos c] at e'; cases e'
      obtain ⟨a', o, e1, g, ro⟩ := dget_of rl q2' q1 c
      refine ⟨a', o, e1, g, ?_⟩
      rw [← ro.some]
      exact k _ H B rl .rfl' (.bl _)
    · rw [if_neg c] at e'; cases e'
  · rename_i kvs a ks ha ra
    have e' : (if keyFor true x = true then some (D.bl (if neg then !(dlook kvs x).isSome else (dlook kvs x).isSome)) else none) = some d := by cases x <;> exact e
    by_cases c : keyFor true x = true
    · rw [if_pos c] at e'; cases e'
      obtain ⟨a', o, e1, g, ro⟩ := dget_of rl q2' q1 c
      refine ⟨a', o, e1, g, ?_⟩
      rw [← ro.some]
      exact k _ H B rl .rfl' (.bl _)
    · rw [if_neg c] at e'; cases e'

/-! ### slices -/
abbrev Par := MS → R (Option Int)
def pNo : Par := fun S => .ok none S
def pSome (e : Exp) : Par := fun S => (e S).bind fun d S1 => match d with
  | .int i => .ok (some i) S1
  | _ => .st
def cutL {α : Type} (xs : List α) (lo hi : Option Int) : List α := (xs.drop (HT.sIx xs.length 0 lo)).take (HT.sIx xs.length xs.length hi - HT.sIx xs.length 0 lo)
def slO (lo hi : Option Int) : D → Option D
  | .lst ds => some (.lst (cutL ds lo hi))
  | .tup ds => some (.tup (cutL ds lo hi))
  | .str z => if z.length ≤ sizeLine then some (.str (cutS z lo hi)) else none
  | _ => none
def eSl (a : Exp) (lo hi : Par) : Exp := fun S => (a S).bind fun x S1 => (lo S1).bind fun l S2 => (hi S2).bind fun h S3 => liftO S3 (slO l h x)
def TOm (T : Su) (t : Par) : TO := fun σ H Q => ∃ S B, Rl T.toZu S σ H B ∧ PostR T σ B (fun _ a b => a = b) Q (t S)
theorem poI {X : Cx} {e : Option Expr} {t t' : TO} (h : PO X e t) (k : ∀ σ H Q, t' σ H Q → t σ H Q) : PO X e t' := ⟨fun pins s σ H Q I q => h.run pins s σ H Q I (k σ H Q q)⟩
theorem cutL_rep {T : Cfg} {B : Bd} {ds : List D} {vs : List V} (h : RepL T B ds vs) (lo hi : Option Int) : RepL T B (cutL ds lo hi) (cutV vs lo hi) := by
  unfold cutL cutV
  rw [← h.length]
  exact RepL.take _ (RepL.drop _ h)
def rSlM (K : PySem.W.Frag) : V → Option Int → Option Int → Hp → VK → Prop := fun x lo hi H Q => (rSlL K x lo hi H Q ∨ rSlA K x lo hi H Q) ∨ rSlS x lo hi H Q
theorem sl_M {X : Cx} : SlR X (rSlM X.K) := SlR.or (SlR.or sl_list sl_tupA) sl_str
section
variable {X : Cx} {T : Su} {pos p2 : Pos} {a e : Expr} {lo hi : Option Expr} {ea ee : Exp} {tl th : Par}
theorem o_no : PO X none (TOm T pNo) := poI po_none fun σ H Q ⟨S, B, rl, h⟩ => h none H B rl .rfl' rfl
theorem o_some (h : PE X e (TEm T ee)) : PO X (some e) (TOm T (pSome ee)) := poI (po_some h) fun σ H Q ⟨S, B, rl, h⟩ => by
  refine ⟨S, B, rl, PostR.bind h fun x S1 v H1 B1 r1 l1 q1 h1 => ?_⟩
  cases q1 <;> first | exact h1.elim | skip
  rename_i i
  exact ⟨i, rfl, h1 (some i) H1 B1 r1 .rfl' rfl⟩
theorem r_sl (hK : T.K = X.K) (ha : PE X a (TEm T ea)) (hl : PO X lo (TOm T tl)) (hh : PO X hi (TOm T th)) : PE X (.Subscript a (.Slice lo hi none p2) pos) (TEm T (eSl ea tl th)) := peI (pe_slice (hK ▸ sl_M) ha hl hh) fun σ H Q h => by
  obtain ⟨S, B, rl, h⟩ := h
  refine ⟨S, B, rl, PostR.bind h fun x S1 v H1 B1 r1 l1 q1 h1 => ?_⟩
  refine ⟨S1, B1, r1, PostR.bind h1 fun l S2 l' H2 B2 r2 l2 e2 h2 => ?_⟩
  subst e2
  refine ⟨S2, B2, r2, PostR.bind h2 fun h' S3 h'' H3 B3 r3 l3 e3 h3 => ?_⟩
  subst e3
  obtain ⟨d, e, k⟩ := liftO_post h3
  have q3 := (q1.le l2).le l3
  cases q3 <;> first | (cases e; done) | skip
  · rename_i z
    have e' : (if z.length ≤ sizeLine then some (D.str (cutS z l h')) else none) = some d := e
    by_cases c : z.length ≤ sizeLine
    · rw [if_pos c] at e'; cases e'
      exact .inr ⟨z, rfl, c, k _ H3 B3 r3 .rfl' (.str _)⟩
    · rw [if_neg c] at e'; cases e'
  · rename_i ds a xs ha ra
    cases (show some (D.lst (cutL ds l h')) = some d from e)
    refine .inl (.inl ⟨a, xs, rfl, .inl (.inl (r3.lst ha)), fun p hp => ?_⟩)
    have le := Bd.le_add (o := .lst (cutV xs l h')) (r3.gnone hp)
    exact k _ _ _ (r3.alloc hp _) le (.lst upd_same (cutL_rep (ra.le le) _ _))
  · rename_i ds a xs ha ra
    cases (show some (D.tup (cutL ds l h')) = some d from e)
    refine .inl (.inr ⟨a, xs, rfl, r3.sqT ha, fun w => ?_, fun _ p hp => ?_⟩)
    · have hw : cutL ds l h' = ds := by
        unfold cutL
        rw [ra.length, w.1, w.2, List.drop_zero, Nat.sub_zero, ← ra.length, List.take_length]
      rw [hw] at k
      exact k _ H3 B3 r3 .rfl' (.tup ha ra)
    · have le := Bd.le_add (o := .tup (cutV xs l h')) (r3.gnone hp)
      exact k _ _ _ (r3.alloc hp _) le (.tup upd_same (cutL_rep (ra.le le) _ _))
/-- xs[::-1] of a list -/
def revO : D → Option D
  | .lst ds => some (.lst ds.reverse)
  | _ => none
theorem r_rev {k : Nat} {p1 p3 p4 : Pos} (hK : T.K = X.K) (ha : PE X a (TEm T ea)) : PE X (.Subscript a (.Slice none none (some (.UnaryOp .USub (.Constant (.int 1) k p1) p4)) p3) pos) (TEm T (eUn revO ea)) := peI (pe_revL ha) fun σ H Q h => by
  obtain ⟨S, B, rl, h⟩ := h
  refine ⟨S, B, rl, PostR.bind h fun x S1 v H1 B1 r1 l1 q1 h1 => ?_⟩
  obtain ⟨d, e, k⟩ := liftO_post h1
  cases q1 <;> first | (cases e; done) | skip
  rename_i ds a xs ha ra
  cases (show some (D.lst ds.reverse) = some d from e)
  refine ⟨a, xs, rfl, .inl (.inl (r1.lst ha)), fun p hp => ?_⟩
  have le := Bd.le_add (o := .lst xs.reverse) (r1.gnone hp)
  exact k _ _ _ (r1.alloc hp _) le (.lst upd_same (RepL.reverse (ra.le le)))
end

/-- a call of one value, of two -/
def one (g : D → Option D) : List D → Option D
  | [x] => g x
  | _ => none
def oneTwo (g : D → Option D) (h : D → D → Option D) : List D → Option D
  | [x] => g x
  | [x, y] => h x y
  | _ => none
theorem bi_one {T : Cfg} {r : List V → Hp → VK → Prop} {g : D → Option D} (h : Un1 T (fun v => r [v]) g) : Bi T r (one g) := by
  intro Z S σ H B xs d vs Q rl q e k
  cases q with
  | nil => cases e
  | cons q1 q2 =>
    cases q2 with
    | nil => exact h rl q1 e k
    | cons _ _ => cases e
theorem bi_oneTwo {T : Cfg} {r : List V → Hp → VK → Prop} {g : D → Option D} {g2 : D → D → Option D} (h : Un1 T (fun v => r [v]) g) (h2 : Bin T (fun v w => r [v, w]) g2) : Bi T r (oneTwo g g2) := by
  intro Z S σ H B xs d vs Q rl q e k
  cases q with
  | nil => cases e
  | cons q1 q2 =>
    cases q2 with
    | nil => exact h rl q1 e k
    | cons q2 q3 =>
      cases q3 with
      | nil => exact h2 rl q1 q2 e k
      | cons _ _ => cases e

/-! ### len, abs, int, bool, max, min, sum, any, all, tuple, list, str -/
def lenO : D → Option D
  | .lst ds => some (.int ds.length)
  | .tup ds => some (.int ds.length)
  | .scr ns => some (.int ns.length)
  | .str z => if z.length ≤ sizeLine then some (.int z.length) else none
  | .dic _ kvs => some (.int kvs.length)
  | _ => none
def rLenD : List V → Hp → VK → Prop := fun xs H Q => (∃ a kvs, xs = [V.ref a] ∧ Rd H a (.dK kvs) ∧ Q (.int kvs.length) H) ∨ ∃ a kvs, xs = [V.ref a] ∧ Rd H a (.dT kvs) ∧ Q (.int kvs.length) H
theorem call_lenDic {X : Cx} : CallR X (.builtin "len") rLenD := by
  intro pins s σ H xs us Q I r h
  rcases h with ⟨a, kvs, rfl, ha, q⟩ | ⟨a, kvs, rfl, ha, q⟩
  · obtain ⟨u, rfl, ru⟩ := vals1 r
    obtain rfl : u = Value.ref a := ru
    exact d_len I ha fun t s' I' => ⟨.int kvs.length, H, I', ⟨t, rfl⟩, q⟩
  · obtain ⟨u, rfl, ru⟩ := vals1 r
    obtain rfl : u = Value.ref a := ru
    obtain ⟨z, hd, ys, rel, dd⟩ := dt_rd I.hok ha
    have hl : kvs.length = ys.length := Paired.length rel
    refine call_len_dictH hd dd (by rw [← hl]; rw [sizeLine_eq] at z; omega) ?_
    rw [← hl]
    exact ⟨.int ((kvs.length : Nat) : Int), H, I.tok _, ⟨_, rfl⟩, q⟩
def rLenM (K : PySem.W.Frag) : List V → Hp → VK → Prop := fun xs H Q => (∃ x n, xs = [x] ∧ LenV K x H n ∧ Q (.int n) H) ∨ rLenD xs H Q
theorem call_lenM {X : Cx} : CallR X (.builtin "len") (rLenM X.K) := CallR.or call_len call_lenDic
theorem g_len {T : Cfg} : Bi T (rLenM T.K) (one lenO) := by
  apply bi_one
  intro Z S σ H B x d v Q rl q e k
  cases q <;> first | (cases e; done) | skip
  · rename_i z
    have e' : (if z.length ≤ sizeLine then some (D.int z.length) else none) = some d := e
    by_cases c : z.length ≤ sizeLine
    · rw [if_pos c] at e'; cases e'
      exact .inl ⟨_, z.length, rfl, ⟨c, rfl⟩, k _ H B rl .rfl' (.int _)⟩
    · rw [if_neg c] at e'; cases e'
  · rename_i ds a xs ha ra
    cases (show some (D.int ds.length) = some d from e)
    exact .inl ⟨_, ds.length, rfl, .inl ⟨xs, .inl (.inl (rl.lst ha)), ra.length⟩, k _ H B rl .rfl' (.int _)⟩
  · rename_i ns a ha
    cases (show some (D.int ns.length) = some d from e)
    exact .inl ⟨_, ns.length, rfl, .inl ⟨_, rl.sqL ha, by rw [List.length_map]⟩, k _ H B rl .rfl' (.int _)⟩
  · rename_i ds a xs ha ra
    cases (show some (D.int ds.length) = some d from e)
    exact .inl ⟨_, ds.length, rfl, .inr ⟨xs, rl.sqT ha, ra.length⟩, k _ H B rl .rfl' (.int _)⟩
  · rename_i kvs a ks ha ra
    cases (show some (D.int kvs.length) = some d from e)
    exact .inr (.inl ⟨_, ks, rfl, rl.rd ha, by rw [← ra.length]; exact k _ H B rl .rfl' (.int _)⟩)
  · rename_i kvs a ks ha ra
    cases (show some (D.int kvs.length) = some d from e)
    exact .inr (.inr ⟨_, ks, rfl, rl.rd ha, by rw [← ra.length]; exact k _ H B rl .rfl' (.int _)⟩)
def absO : D → Option D
  | .int i => some (.int (if i < 0 then -i else i))
  | _ => none
theorem g_abs {T : Cfg} : Bi T (fun xs H Q => ∃ i, xs = [.int i] ∧ Q (.int (if i < 0 then -i else i)) H) (one absO) := by
  apply bi_one
  intro Z S σ H B x d v Q rl q e k
  cases q <;> first | (cases e; done) | skip
  rename_i i
  cases (show some (D.int (if i < 0 then -i else i)) = some d from e)
  exact ⟨i, rfl, k _ H B rl .rfl' (.int _)⟩
def toIntO : D → Option D
  | .int i => some (.int i)
  | .bl b => some (.int (if b then 1 else 0))
  | _ => none
theorem g_int {T : Cfg} : Bi T (fun xs H Q => (∃ i, xs = [.int i] ∧ Q (.int i) H) ∨ ∃ k, xs = [.bl k] ∧ Q (.int (if k then 1 else 0)) H) (one toIntO) := by
  apply bi_one
  intro Z S σ H B x d v Q rl q e k
  cases q <;> first | (cases e; done) | skip
  · rename_i b
    cases (show some (D.int (if b then 1 else 0)) = some d from e)
    exact .inr ⟨b, rfl, k _ H B rl .rfl' (.int _)⟩
  · rename_i i
    cases (show some (D.int i) = some d from e)
    exact .inl ⟨i, rfl, k _ H B rl .rfl' (.int _)⟩
def maxL : List Int → Int
  | [] => 0
  | n :: ns => ns.foldl max n
def minL : List Int → Int
  | [] => 0
  | n :: ns => ns.foldl min n
theorem foldl_max : ∀ (ns : List Int) (n : Int), n ≤ ns.foldl max n ∧ (∀ y ∈ ns, y ≤ ns.foldl max n) ∧ (ns.foldl max n = n ∨ ns.foldl max n ∈ ns)
  | [], n => ⟨Int.le_refl _, fun _ h => (nomatch h), .inl rfl⟩
  | m :: ns, n => by
    obtain ⟨h1, h2, h3⟩ := foldl_max ns (max n m)
    rw [List.foldl_cons]
    refine ⟨by omega, fun y hy => ?_, ?_⟩
    · rcases List.mem_cons.mp hy with rfl | hy
      · omega
      · exact h2 y hy
    · rcases h3 with h3 | h3
      · rw [h3]
        by_cases c : n ≤ m
        · exact .inr (by rw [show max n m = m by omega]; exact List.mem_cons_self)
        · exact .inl (by omega)
      · exact .inr (List.mem_cons_of_mem _ h3)
theorem foldl_min : ∀ (ns : List Int) (n : Int), ns.foldl min n ≤ n ∧ (∀ y ∈ ns, ns.foldl min n ≤ y) ∧ (ns.foldl min n = n ∨ ns.foldl min n ∈ ns)
  | [], n => ⟨Int.le_refl _, fun _ h => (nomatch h), .inl rfl⟩
  | m :: ns, n => by
    obtain ⟨h1, h2, h3⟩ := foldl_min ns (min n m)
    rw [List.foldl_cons]
    refine ⟨by omega, fun y hy => ?_, ?_⟩
    · rcases List.mem_cons.mp hy with rfl | hy
      · omega
      · exact h2 y hy
    · rcases h3 with h3 | h3
      · rw [h3]
        by_cases c : n ≤ m
        · exact .inl (by omega)
        · exact .inr (by rw [show min n m = m by omega]; exact List.mem_cons_self)
      · exact .inr (List.mem_cons_of_mem _ h3)
theorem maxL_spec {ns : List Int} (h : ns ≠ []) : maxL ns ∈ ns ∧ ∀ y ∈ ns, y ≤ maxL ns := by
  cases ns with
  | nil => exact absurd rfl h
  | cons n ns =>
    obtain ⟨h1, h2, h3⟩ := foldl_max ns n
    refine ⟨?_, fun y hy => ?_⟩
    · rcases h3 with h3 | h3
      · exact List.mem_cons.mpr (.inl h3)
      · exact List.mem_cons_of_mem _ h3
    · rcases List.mem_cons.mp hy with rfl | hy
      · exact h1
      · exact h2 y hy
theorem minL_spec {ns : List Int} (h : ns ≠ []) : minL ns ∈ ns ∧ ∀ y ∈ ns, minL ns ≤ y := by
  cases ns with
  | nil => exact absurd rfl h
  | cons n ns =>
    obtain ⟨h1, h2, h3⟩ := foldl_min ns n
    refine ⟨?_, fun y hy => ?_⟩
    · rcases h3 with h3 | h3
      · exact List.mem_cons.mpr (.inl h3)
      · exact List.mem_cons_of_mem _ h3
    · rcases List.mem_cons.mp hy with rfl | hy
      · exact h1
      · exact h2 y hy
theorem maxL_one {ns : List Int} {m : Int} (h1 : m ∈ ns) (h2 : ∀ y ∈ ns, y ≤ m) : m = maxL ns := by
  have h := maxL_spec (ns := ns) (fun e => by rw [e] at h1; cases h1)
  have a := h2 _ h.1
  have b := h.2 _ h1
  omega
theorem minL_one {ns : List Int} {m : Int} (h1 : m ∈ ns) (h2 : ∀ y ∈ ns, m ≤ y) : m = minL ns := by
  have h := minL_spec (ns := ns) (fun e => by rw [e] at h1; cases h1)
  have a := h2 _ h.1
  have b := h.2 _ h1
  omega
/-- ints of a list or a list's reading -/
def maxO : D → Option D
  | .lst ds => match intsOf ds with
    | some (n :: ns) => some (.int (maxL (n :: ns)))
    | _ => none
  | _ => none
def max2 : D → D → Option D
  | .int i, .int j => some (.int (if j > i then j else i))
  | _, _ => none
def minO : D → Option D
  | .lst ds => match intsOf ds with
    | some (n :: ns) => some (.int (minL (n :: ns)))
    | _ => none
  | _ => none
def min2 : D → D → Option D
  | .int i, .int j => some (.int (if j < i then j else i))
  | _, _ => none
def rMaxM (K : PySem.W.Frag) : List V → Hp → VK → Prop := fun xs H Q => rMax K xs H Q ∨ ∃ i j, xs = [.int i, .int j] ∧ Q (.int (if j > i then j else i)) H
def rMinM (K : PySem.W.Frag) : List V → Hp → VK → Prop := fun xs H Q => rMin K xs H Q ∨ ∃ i j, xs = [.int i, .int j] ∧ Q (.int (if j < i then j else i)) H
theorem call_maxM {X : Cx} (hc : X.calm = true) : CallR X (.builtin "max") (rMaxM X.K) := CallR.or (cr_max hc) (call_max2 hc)
theorem call_minM {X : Cx} (hc : X.calm = true) : CallR X (.builtin "min") (rMinM X.K) := CallR.or (cr_min hc) (call_min2 hc)
theorem g_max {T : Cfg} : Bi T (rMaxM T.K) (oneTwo maxO max2) := by
  apply bi_oneTwo
  · intro Z S σ H B x d v Q rl q e k
    cases q <;> first | (cases e; done) | skip
    rename_i ds a xs ha ra
    have e0 : (match intsOf ds with | some (n :: ns) => some (D.int (maxL (n :: ns))) | _ => none) = some d := e
    cases ei : intsOf ds with
    | none => rw [ei] at e0; cases e0
    | some ns =>
      cases ns with
      | nil => rw [ei] at e0; cases e0
      | cons n ns =>
        rw [ei] at e0
        have e' : some (D.int (maxL (n :: ns))) = some d := e0
        cases e'
        have ed := intsOf_eq ei
        subst ed
        have ex := ra.intsV
        subst ex
        exact .inl ⟨a, n :: ns, rfl, .inl (.inl (rl.lst ha)), Nat.succ_pos _, fun m h1 h2 => by rw [maxL_one h1 h2]; exact k _ H B rl .rfl' (.int _)⟩
  · intro Z S σ H B x y d v w Q rl q1 q2 e k
    cases q1 <;> cases q2 <;> first | (cases e; done) | skip
    rename_i i j
    cases (show some (D.int (if j > i then j else i)) = some d from e)
    exact .inr ⟨i, j, rfl, k _ H B rl .rfl' (.int _)⟩
theorem g_min {T : Cfg} : Bi T (rMinM T.K) (oneTwo minO min2) := by
  apply bi_oneTwo
  · intro Z S σ H B x d v Q rl q e k
    cases q <;> first | (cases e; done) | skip
    rename_i ds a xs ha ra
    have e0 : (match intsOf ds with | some (n :: ns) => some (D.int (minL (n :: ns))) | _ => none) = some d := e
    cases ei : intsOf ds with
    | none => rw [ei] at e0; cases e0
    | some ns =>
      cases ns with
      | nil => rw [ei] at e0; cases e0
      | cons n ns =>
        rw [ei] at e0
        have e' : some (D.int (minL (n :: ns))) = some d := e0
        cases e'
        have ed := intsOf_eq ei
        subst ed
        have ex := ra.intsV
        subst ex
        exact .inl ⟨a, n :: ns, rfl, .inl (.inl (rl.lst ha)), Nat.succ_pos _, fun m h1 h2 => by rw [minL_one h1 h2]; exact k _ H B rl .rfl' (.int _)⟩
  · intro Z S σ H B x y d v w Q rl q1 q2 e k
    cases q1 <;> cases q2 <;> first | (cases e; done) | skip
    rename_i i j
    cases (show some (D.int (if j < i then j else i)) = some d from e)
    exact .inr ⟨i, j, rfl, k _ H B rl .rfl' (.int _)⟩
def sumO : D → Option D
  | .lst ds => (intsOf ds).map fun ns => .int ns.sum
  | _ => none
theorem g_sum {T : Cfg} : Bi T (rSum T.K) (one sumO) := by
  apply bi_one
  intro Z S σ H B x d v Q rl q e k
  cases q <;> first | (cases e; done) | skip
  rename_i ds a xs ha ra
  obtain ⟨ns, ei, e'⟩ := Option.map_eq_some_iff.mp (show (intsOf ds).map (fun ns => D.int ns.sum) = some d from e)
  cases e'
  have ed := intsOf_eq ei
  subst ed
  have ex := ra.intsV
  subst ex
  exact ⟨a, ns, rfl, .inl (.inl (rl.lst ha)), k _ H B rl .rfl' (.int _)⟩
def anyO : D → Option D
  | .lst ds => (blsOf ds).map fun bs => .bl (bs.any id)
  | _ => none
def allO : D → Option D
  | .lst ds => (blsOf ds).map fun bs => .bl (bs.all id)
  | _ => none
theorem g_any {T : Cfg} : Bi T (rAny T.K) (one anyO) := by
  apply bi_one
  intro Z S σ H B x d v Q rl q e k
  cases q <;> first | (cases e; done) | skip
  rename_i ds a xs ha ra
  obtain ⟨ns, ei, e'⟩ := Option.map_eq_some_iff.mp (show (blsOf ds).map (fun bs => D.bl (bs.any id)) = some d from e)
  cases e'
  have ed := blsOf_eq ei
  subst ed
  have ex := ra.blsV
  subst ex
  exact ⟨a, ns, rfl, .inl (.inl (rl.lst ha)), k _ H B rl .rfl' (.bl _)⟩
theorem g_all {T : Cfg} : Bi T (rAll T.K) (one allO) := by
  apply bi_one
  intro Z S σ H B x d v Q rl q e k
  cases q <;> first | (cases e; done) | skip
  rename_i ds a xs ha ra
  obtain ⟨ns, ei, e'⟩ := Option.map_eq_some_iff.mp (show (blsOf ds).map (fun bs => D.bl (bs.all id)) = some d from e)
  cases e'
  have ed := blsOf_eq ei
  subst ed
  have ex := ra.blsV
  subst ex
  exact ⟨a, ns, rfl, .inl (.inl (rl.lst ha)), k _ H B rl .rfl' (.bl _)⟩
def tupleO : D → Option D
  | .lst ds => some (.tup ds)
  | .tup ds => some (.tup ds)
  | _ => none
theorem g_tuple {T : Cfg} : Bi T (fun xs H Q => ∃ p ys, xs = [.ref p] ∧ ((SqL T.K H p ys ∧ ∀ l, H l = none → Q (.ref l) (upd H l (.tup ys))) ∨ (SqT T.K H p ys ∧ Q (.ref p) H))) (one tupleO) := by
  apply bi_one
  intro Z S σ H B x d v Q rl q e k
  cases q <;> first | (cases e; done) | skip
  · rename_i ds a xs ha ra
    cases (show some (D.tup ds) = some d from e)
    refine ⟨a, xs, rfl, .inl ⟨.inl (.inl (rl.lst ha)), fun p hp => ?_⟩⟩
    have le := Bd.le_add (o := .tup xs) (rl.gnone hp)
    exact k _ _ _ (rl.alloc hp _) le (.tup upd_same (ra.le le))
  · rename_i ds a xs ha ra
    cases (show some (D.tup ds) = some d from e)
    exact ⟨a, xs, rfl, .inr ⟨rl.sqT ha, k _ H B rl .rfl' (.tup ha ra)⟩⟩
/-- list(x): of a list, a tuple, a dict's keys -/
def listO : D → Option D
  | .lst ds => some (.lst ds)
  | .tup ds => some (.lst ds)
  | .dic _ kvs => some (.lst (kvs.map (·.1)))
  | _ => none
def rListDK : List V → Hp → VK → Prop := fun xs H Q => ∃ p kvs, xs = [.ref p] ∧ Rd H p (.dK kvs) ∧ ∀ q, H q = none → Q (.ref q) (upd H q (.lst (kvs.map fun kv => kV kv.1)))
theorem call_list_rdK {X : Cx} (hc : X.calm = true) : CallR X (.type "list") rListDK := by
  intro pins s σ H xs us Q I r h
  obtain ⟨p, kvs, e, hk, q⟩ := h
  subst e
  obtain ⟨u, eu, rx⟩ := vals1 r
  subst eu
  obtain rfl : u = Value.ref p := rx
  obtain ⟨z, lo, vs, rk, hd⟩ := dk_rd I.hok hk
  obtain ⟨ep, hat⟩ := hd.dictAt
  have hl : kvs.length = vs.length := Paired.length rk
  refine PySem.W.kdl_call (PySem.W.kdl_dict (knd := mixKind X.prog X.w) (kvs := vs) (ep := ep) lo) (I.ok.hd hc) hat (by rw [← hl]; exact z) fun h' tk acc' c' hkeep hS hacc => ?_
  refine ⟨.ref s.heap.objs.size, upd H s.heap.objs.size (.lst (kvs.map fun kv => kV kv.1)), I.laid hkeep (Nat.le_refl _) (show ObjOk X.prog X.w _ _ _ (.lst (kvs.map fun kv => kV kv.1)) from ⟨?_, acc'.toList, c', ?_, ?_⟩), rfl, q _ (I.hok.fresh (Nat.le_refl _))⟩
  · rw [List.length_map]; exact z
  · have el : acc'.toList.length = acc'.size := by simp
    refine vals_of_at (by rw [List.length_map, el, hacc.1, hl]) fun j x w h1 h2 => ?_
    obtain ⟨k, y, hky, hi⟩ := hacc.2 j w (by rw [← Array.getElem?_toList]; exact h2)
    have e1 : (kvs.map (·.1))[j]? = some k := by
      rw [KV.keys rk, List.getElem?_map, hky] <;> rfl
    have e2 : (kvs.map fun kv => kV kv.1)[j]? = some (kV k) := by
      have e3 : (kvs.map fun kv => kV kv.1) = (kvs.map (·.1)).map kV := by rw [List.map_map] <;> rfl
      rw [e3, List.getElem?_map, e1] <;> rfl
    rw [e2] at h1
    cases h1
    exact keyIs_rel hi
  · rw [Array.toArray_toList]; exact hS
def rListM (K : PySem.W.Frag) : List V → Hp → VK → Prop := fun xs H Q => (∃ p ys, xs = [.ref p] ∧ (SqL K H p ys ∨ SqT K H p ys) ∧ ∀ l, H l = none → Q (.ref l) (upd H l (.lst ys))) ∨
  (rListDK xs H Q ∨ (∃ d kvs, xs = [V.ref d] ∧ Rd H d (.dT kvs) ∧ ∀ p bs, H p = none → IsKeys H kvs bs → Q (.ref p) (upd H p (.lst (bs.map V.ref)))))
theorem call_listM {X : Cx} (hc : X.calm = true) : CallR X (.type "list") (rListM X.K) := CallR.or call_list_of (CallR.or (call_list_rdK hc) (call_list_dT hc))
theorem RepK.keysR {T : Cfg} {B : Bd} : ∀ {kvs : List (D × D)} {ks : List (Key × V)}, RepK T B kvs ks → RepL T B (kvs.map (·.1)) (ks.map fun kv => kV kv.1)
  | _, _, .nil => .nil
  | _, _, .cons (k := k) a b => .cons (key_rep k) (RepK.keysR b)
/-- the key tuples of a dict are seen -/
theorem seeKeys {T : Zu} {S : MS} {σ : L2.St} {H : Hp} : ∀ {kvs : List (D × D)} {ks : List (List Key × V)} {bs : List Addr} {B : Bd}, Rl T S σ H B → RepT T.toCfg B kvs ks → IsKeys H ks bs → ∃ B', Rl T S σ H B' ∧ B.le B' ∧ RepL T.toCfg B' (kvs.map (·.1)) (bs.map V.ref)
  | _, _, _, B, rl, .nil, h => by
    have h' : Paired (fun (p : List Key × V) b => H b = some (.tup (p.1.map kV))) [] _ := h
    cases h'
    exact ⟨B, rl, .rfl', .nil⟩
  | _, _, _, B, rl, .cons (k := k) a b, h => by
    have h' : Paired (fun (p : List Key × V) b => H b = some (.tup (p.1.map kV))) (_ :: _) _ := h
    cases h' with
    | cons h1 h2 =>
      rename_i x bs
      obtain ⟨B1, r1, l1, g1⟩ := rl.seeTup h1
      obtain ⟨B2, r2, l2, q2⟩ := seeKeys r1 (b.le l1) h2
      exact ⟨B2, r2, l1.trans l2, .cons (.tup (l2.g _ _ g1) (keys_rep k)) q2⟩
theorem g_list {T : Cfg} : Bi T (rListM T.K) (one listO) := by
  apply bi_one
  intro Z S σ H B x d v Q rl q e k
  cases q <;> first | (cases e; done) | skip
  · rename_i ds a xs ha ra
    cases (show some (D.lst ds) = some d from e)
    refine .inl ⟨a, xs, rfl, .inl (.inl (.inl (rl.lst ha))), fun p hp => ?_⟩
    have le := Bd.le_add (o := .lst xs) (rl.gnone hp)
    exact k _ _ _ (rl.alloc hp _) le (.lst upd_same (ra.le le))
  · rename_i ds a xs ha ra
    cases (show some (D.lst ds) = some d from e)
    refine .inl ⟨a, xs, rfl, .inr (rl.sqT ha), fun p hp => ?_⟩
    have le := Bd.le_add (o := .lst xs) (rl.gnone hp)
    exact k _ _ _ (rl.alloc hp _) le (.lst upd_same (ra.le le))
  · rename_i kvs a ks ha ra
    cases (show some (D.lst (kvs.map (·.1))) = some d from e)
    refine .inr (.inl ⟨a, ks, rfl, rl.rd ha, fun p hp => ?_⟩)
    have le := Bd.le_add (o := .lst (ks.map fun kv => kV kv.1)) (rl.gnone hp)
    exact k _ _ _ (rl.alloc hp _) le (.lst upd_same (RepK.keysR (ra.le le)))
  · rename_i kvs a ks ha ra
    cases (show some (D.lst (kvs.map (·.1))) = some d from e)
    refine .inr (.inr ⟨a, ks, rfl, rl.rd ha, fun p bs hp hb => ?_⟩)
    obtain ⟨B1, r1, l1, q1⟩ := seeKeys (T := ⟨T, Z⟩) rl ra hb
    have le := Bd.le_add (o := .lst (bs.map V.ref)) (r1.gnone hp)
    exact k _ _ _ (r1.alloc hp _) (l1.trans le) (.lst upd_same (q1.le le))
def strO : D → Option D
  | .int i => if i.natAbs.log2 < 1920 then some (.str (toString i)) else none
  | _ => none
theorem g_str {T : Cfg} : Bi T (fun xs H Q => ∃ i, xs = [.int i] ∧ i.natAbs.log2 < 1920 ∧ Q (.str (toString i)) H) (one strO) := by
  apply bi_one
  intro Z S σ H B x d v Q rl q e k
  cases q <;> first | (cases e; done) | skip
  rename_i i
  have e' : (if i.natAbs.log2 < 1920 then some (D.str (toString i)) else none) = some d := e
  by_cases c : i.natAbs.log2 < 1920
  · rw [if_pos c] at e'; cases e'
    exact ⟨i, rfl, c, k _ H B rl .rfl' (.str _)⟩
  · rw [if_neg c] at e'; cases e'
/-! ### isinstance of data -/
def tyn : D → Option String
  | .non => some "NoneType"
  | .bl _ => some "bool"
  | .int _ => some "int"
  | .str _ => some "str"
  | .lst _ => some "list"
  | .tup _ => some "tuple"
  | .dic _ _ => some "dict"
  | .scr _ => some "list"
  | _ => none
def isiB (t n : String) : Bool := t == n || (t == "bool" && n == "int")
def isiKn (n : String) : Bool := n == "int" || n == "bool" || n == "str" || n == "list" || n == "tuple" || n == "dict"
/-- isinstance(x, n), isinstance(x, (n, m)) -/
def isiG (n : String) : D → Option D := fun d => if isiKn n then (tyn d).map fun t => .bl (isiB t n) else none
def isiG2 (n m : String) : D → Option D := fun d => if isiKn n && isiKn m then (tyn d).map fun t => .bl (isiB t n || isiB t m) else none
theorem kit_known {K : PySem.W.Frag} {d : D} {t n : String} (hd : tyn d = some t) (hn : isiKn n = true) : PySem.W.kitOne K (.type t) (.type n) = some (isiB t n) := by
  have ht : t ∈ ["NoneType", "bool", "int", "str", "list", "tuple", "dict"] := by
    cases d <;> first | (cases hd; done) | (cases hd; decide)
  have hn' : n ∈ ["int", "bool", "str", "list", "tuple", "dict"] := by
    unfold isiKn at hn
    simp only [Bool.or_eq_true, beq_iff_eq] at hn
    rcases hn with ((((rfl | rfl) | rfl) | rfl) | rfl) | rfl <;> decide
  have all : ∀ t ∈ ["NoneType", "bool", "int", "str", "list", "tuple", "dict"], ∀ n ∈ ["int", "bool", "str", "list", "tuple", "dict"], kitB t n = some (isiB t n) := by decide +kernel
  exact kit_ty (all t ht n hn')
theorem tyx_of {T : Zu} {S : MS} {σ : L2.St} {H : Hp} {B : Bd} {d : D} {v : V} {t : String} (rl : Rl T S σ H B) (q : Rep T.toCfg B d v) (h : tyn d = some t) (K : PySem.W.Frag) : TyX K H v (.type t) ∨ (∃ (a : Addr) (ns : List Int), v = .ref a ∧ t = "list" ∧ SqL T.K H a (ns.map V.int)) ∨ (∃ a, v = .ref a ∧ t = "dict" ∧ ∃ kvs, Rd H a (.dT kvs)) := by
  cases q <;> first | (cases h; done) | skip
  · cases h; exact .inl (.base .non)
  · cases h; exact .inl (.base (.bl _))
  · cases h; exact .inl (.base (.int _))
  · cases h; exact .inl (.base (.str _))
  · rename_i ds a xs ha ra; cases h; exact .inl (.base (.lst (rl.lst ha)))
  · rename_i ns a ha; cases h; exact .inr (.inl ⟨a, ns, rfl, rfl, rl.sqL ha⟩)
  · rename_i ds a xs ha ra; cases h; exact .inl (.base (.tup (rl.tup ha)))
  · rename_i kvs a ks ha ra
    cases h
    rcases rl.rd ha with h | ⟨o, h⟩
    · exact .inl (.base (.dK h))
    · exact .inl (.fDict h)
  · rename_i kvs a ks ha ra
    cases h
    exact .inr (.inr ⟨a, rfl, rfl, ks, rl.rd ha⟩)
/-- the types that isinstance is asked of here, over the abstract heap -/
inductive TyY (K : PySem.W.Frag) (H : Hp) : V → Value → Prop
  | x {v : V} {t : Value} : TyX K H v t → TyY K H v t
  | l {a : Addr} {xs : List V} : SqL K H a xs → TyY K H (.ref a) (.type "list")
  | d {a : Addr} {kvs : List (List Key × V)} : Rd H a (.dT kvs) → TyY K H (.ref a) (.type "dict")
theorem kit_ofY {X : Cx} {pins : List (Addr × Obj)} {σ : L2.St} {H : Hp} {s : Shared} {x : V} {u t : Value} (I : Inv X pins σ H s) (rx : RelV x u) (ty : TyY X.K H x t) : ∃ P : Heap → Prop, PySem.W.KitX X.K u t P ∧ P s.heap ∧ u ≠ .builtin "__main__.__loader__#opaque" := by
  cases ty with
  | x h => exact kit_of I rx h
  | @l a xs h =>
    cases (show u = Value.ref a from rx)
    obtain ⟨its, r, ⟨o, n, e, c, _⟩, _⟩ := I.list h
    exact ⟨_, PySem.W.kitx_list, ⟨o, e, c⟩, fun z => nomatch z⟩
  | @d a kvs h =>
    cases (show u = Value.ref a from rx)
    obtain ⟨_, _, xs, _, o, es, ep, h1, h2, _⟩ := (show ObjOk X.prog X.w H s.heap a (.dT kvs) from h.ok I.hok)
    exact ⟨_, PySem.W.kitx_dict, ⟨o, h1, h2.1⟩, fun z => nomatch z⟩
def rIsiY (K : PySem.W.Frag) : List V → Hp → VK → Prop := fun xs H Q => ∃ (x : V) (n : String) (t : Value) (b : Bool), xs = [x, .ty n] ∧ TyY K H x t ∧ PySem.W.kitOne K t (.type n) = some b ∧ Q (.bl b) H
def rIsiY2 (K : PySem.W.Frag) : List V → Hp → VK → Prop := fun xs H Q => ∃ (x : V) (tp : Addr) (n m : String) (t : Value) (b : Bool), xs = [x, .ref tp] ∧ H tp = some (.tup [.ty n, .ty m]) ∧ TyY K H x t ∧ PySem.W.kitAny K t [.type n, .type m] = some b ∧ Q (.bl b) H
theorem call_isiY {X : Cx} : CallR X (.builtin "isinstance") (rIsiY X.K) := by
  intro pins s σ H xs us Q I r h
  obtain ⟨x, n, t, b, rfl, ty, e, q⟩ := h
  obtain ⟨u1, u2, rfl, r1, r2⟩ := vals2 r
  cases (show u2 = Value.type n from r2)
  obtain ⟨P, Z, p, hx⟩ := kit_ofY I r1 ty
  exact PySem.W.kia_one Z I.kIn p e hx fun tk => ⟨.bl b, H, I.tok tk, rfl, q⟩
theorem call_isiY2 {X : Cx} : CallR X (.builtin "isinstance") (rIsiY2 X.K) := by
  intro pins s σ H xs us Q I r h
  obtain ⟨x, tp, n, m, t, b, rfl, hT, ty, e, q⟩ := h
  obtain ⟨u1, u2, rfl, r1, r2⟩ := vals2 r
  cases (show u2 = Value.ref tp from r2)
  obtain ⟨P, Z, p, hx⟩ := kit_ofY I r1 ty
  obtain ⟨_, its, rv, o, h1, h2, k, h3⟩ := (show ObjOk X.prog X.w H s.heap tp (.tup [.ty n, .ty m]) from I.hok tp _ hT)
  have e3 := ClsV.all (.cons (.ty n) (.cons (.ty m) .nil)) rv
  subst e3
  obtain ⟨oc, od, dt, sl⟩ := o
  simp only at h2 h3
  subst h2 h3
  exact PySem.W.kia_tup Z I.kIn p h1 e hx fun tk => ⟨.bl b, H, I.tok tk, rfl, q⟩
section
variable {X : Cx} {T : Su} {x : Str} {p pos pn pm pt : Pos} {a : Expr} {ea : Exp} {n m : String} {xn xm : Str}
theorem tyY_of {S : MS} {σ : L2.St} {H : Hp} {B : Bd} {d : D} {v : V} {t : String} (rl : Rl T.toZu S σ H B) (q : Rep T.toCfg B d v) (h : tyn d = some t) : TyY T.K H v (.type t) := by
  rcases tyx_of rl q h T.K with h | ⟨a, ns, e1, e2, h2⟩ | ⟨a, e1, e2, kvs, h2⟩
  · exact .x h
  · subst e1 e2; exact .l h2
  · subst e1 e2; exact .d h2
theorem r_isi (hK : T.K = X.K) (hg : Gl X "isinstance") (hm : X.mg "isinstance" = none) (gn : Gl X xn) (mn : X.mg xn = none) (vn : bootBuiltins xn = some (.type n)) (ha : PE X a (TEm T ea)) (hn : xn ≠ "__name__" := by decide) (hdb : (xn == ("__debug__" : Str)) = false := by decide)
    (h1 : starEach [a, .Name xn pn] X.env = (false, eval a X.env) :: starEach [.Name xn pn] X.env := by rfl) (h2 : starEach [.Name xn pn] X.env = (false, eval (.Name xn pn) X.env) :: starEach [] X.env := by rfl) (hpl : (backTo pos (starEach [.Name xn pn] X.env)).any (·.1) = false := by rfl) :
    PE X (.Call (.Name "isinstance" p) [a, .Name xn pn] [] pos) (TEm T (eUn (isiG n) ea)) := by
  refine peI (pe_callB call_isiY hg hm boot_isinstance (pa_cons ha (pa_cons (pe_bltn (v := .ty n) gn mn vn rfl hn hdb) pa_nil h2) h1) (by decide) (by decide) h1 hpl) fun σ H Q h => ?_
  obtain ⟨S, B, rl, h⟩ := h
  refine ⟨S, B, rl, PostR.bind h fun x S1 v H1 B1 r1 l1 q1 h1 => ?_⟩
  obtain ⟨d, e, k⟩ := liftO_post h1
  unfold isiG at e
  split at e
  · rename_i c
    obtain ⟨t, et, e⟩ := Option.map_eq_some_iff.mp e
    subst e
    exact ⟨v, n, .type t, _, rfl, hK ▸ tyY_of r1 q1 et, kit_known et c, k _ H1 B1 r1 .rfl' (.bl _)⟩
  · cases e
theorem r_isi2 {k : Nat} (hK : T.K = X.K) (hg : Gl X "isinstance") (hm : X.mg "isinstance" = none) (gn : Gl X xn) (mn : X.mg xn = none) (vn : bootBuiltins xn = some (.type n)) (gm : Gl X xm) (mm : X.mg xm = none) (vm : bootBuiltins xm = some (.type m)) (ha : PE X a (TEm T ea))
    (hn : xn ≠ "__name__" := by decide) (hdb : (xn == ("__debug__" : Str)) = false := by decide) (hn2 : xm ≠ "__name__" := by decide) (hdb2 : (xm == ("__debug__" : Str)) = false := by decide)
    (h1 : starEach [a, .Tuple [.Name xn pn, .Name xm pm] k pt] X.env = (false, eval a X.env) :: starEach [.Tuple [.Name xn pn, .Name xm pm] k pt] X.env := by rfl)
    (h2 : starEach [.Tuple [.Name xn pn, .Name xm pm] k pt] X.env = (false, eval (.Tuple [.Name xn pn, .Name xm pm] k pt) X.env) :: starEach [] X.env := by rfl)
    (h3 : starEach [.Name xn pn, .Name xm pm] X.env = (false, eval (.Name xn pn) X.env) :: starEach [.Name xm pm] X.env := by rfl) (h4 : starEach [.Name xm pm] X.env = (false, eval (.Name xm pm) X.env) :: starEach [] X.env := by rfl)
    (hpl : (backTo pos (starEach [.Tuple [.Name xn pn, .Name xm pm] k pt] X.env)).any (·.1) = false := by rfl) :
    PE X (.Call (.Name "isinstance" p) [a, .Tuple [.Name xn pn, .Name xm pm] k pt] [] pos) (TEm T (eUn (isiG2 n m) ea)) := by
  refine peI (pe_callB call_isiY2 hg hm boot_isinstance (pa_cons ha (pa_cons (pe_tup (pa_cons (pe_bltn (v := .ty n) gn mn vn rfl hn hdb) (pa_cons (pe_bltn (v := .ty m) gm mm vm rfl hn2 hdb2) pa_nil h4) h3)) pa_nil h2) h1) (by decide) (by decide) h1 hpl) fun σ H Q h => ?_
  obtain ⟨S, B, rl, h⟩ := h
  refine ⟨S, B, rl, PostR.bind h fun x S1 v H1 B1 r1 l1 q1 h1 => ?_⟩
  obtain ⟨d, e, k⟩ := liftO_post h1
  unfold isiG2 at e
  split at e
  · rename_i c
    rw [Bool.and_eq_true] at c
    obtain ⟨t, et, e⟩ := Option.map_eq_some_iff.mp e
    subst e
    refine ⟨by show 2 ≤ sizeLine; decide, fun tp htp => ?_⟩
    have r2 := r1.beside htp (.tup [.ty n, .ty m])
    refine ⟨v, tp, n, m, .type t, _, rfl, upd_same, hK ▸ tyY_of r2 q1 et, ?_, k _ _ B1 r2 .rfl' (.bl _)⟩
    refine kitAny_cons (kit_known et c.1) (fun eb => ?_) fun eb => by rw [eb, Bool.true_or]
    refine kitAny_cons (r := isiB t n || isiB t m) (kit_known et c.2) (fun eb2 => ?_) fun eb2 => by rw [eb2, Bool.or_true]
    rw [eb, eb2]
    rfl
  · cases e
end
end Mir
/-! Mir6: statements, targets, fresh lists and dicts, borrowing. -/
namespace Mir
open PySem PySem.Spec PyProof.Rows L2

def PostS (T : Su) (B : Bd) (E : Ends) : R Fl → Prop
  | .ok .nx S' => ∀ σ' H' B', Rl T.toZu S' σ' H' B' → B.le B' → E.nx σ' H'
  | .ok .bk S' => ∀ σ' H' B', Rl T.toZu S' σ' H' B' → B.le B' → E.bk σ' H'
  | .ok .ct S' => ∀ σ' H' B', Rl T.toZu S' σ' H' B' → B.le B' → E.ct σ' H'
  | .ok (.rt d) S' => ∀ v σ' H' B', Rl T.toZu S' σ' H' B' → B.le B' → Rep T.toCfg B' d v → E.rt v H'
  | .ex c fs S' => ∀ C d σ' H' B', T.cls c = some C → XdOk T.toCfg B' d fs → Rl T.toZu S' σ' H' B' → B.le B' → T.W (.ref C) d σ' H'
  | .st => False
def TSm (T : Su) (m : Stm) : TS := fun D σ H => ∃ S B, Rl T.toZu S σ H B ∧ PostS T B D (m S)
theorem PostS.le {T : Su} {B B1 : Bd} {E : Ends} {r : R Fl} (h : PostS T B E r) (l : B.le B1) : PostS T B1 E r := by
  cases r with
  | ok f S =>
    cases f with
    | nx => exact fun σ' H' B' x l' => h σ' H' B' x (l.trans l')
    | bk => exact fun σ' H' B' x l' => h σ' H' B' x (l.trans l')
    | ct => exact fun σ' H' B' x l' => h σ' H' B' x (l.trans l')
    | rt d => exact fun v σ' H' B' x l' => h v σ' H' B' x (l.trans l')
  | ex c fs S => exact fun C d σ' H' B' e z x l' => h C d σ' H' B' e z x (l.trans l')
  | st => exact h
/-- an expression ahead of what a statement does with it -/
theorem PostS.bind {α β : Type} {T : Su} {σ : L2.St} {B : Bd} {E : Ends} {rel : Bd → α → β → Prop} {P : β → Hp → Prop} {r : R α} {f : α → MS → R Fl} (h : PostS T B E (r.bind f))
    (k : ∀ a S1 b H1 B1, Rl T.toZu S1 σ H1 B1 → B.le B1 → rel B1 a b → PostS T B1 E (f a S1) → P b H1) : PostR T σ B rel P r := by
  cases r with
  | ok a S => exact fun b H' B' x l e => k a S b H' B' x l e (PostS.le (r := f a S) h l)
  | ex c fs S => exact fun C d H' B' e z x l => h C d σ H' B' e z x l
  | st => exact h

/-! ### blocks, small statements -/
def sNil : Stm := fun S => .ok .nx S
def sSeq (a b : Stm) : Stm := fun S => (a S).bind fun f S1 => match f with
  | .nx => b S1
  | f => .ok f S1
def sPass : Stm := fun S => .ok .nx S
def sBrk : Stm := fun S => .ok .bk S
def sCnt : Stm := fun S => .ok .ct S
def sRet (e : Exp) : Stm := fun S => (e S).bind fun d S1 => .ok (.rt d) S1
def sRetN : Stm := fun S => .ok (.rt .non) S
def sExpr (e : Exp) : Stm := fun S => (e S).bind fun _ S1 => .ok .nx S1
def sIf (t : Tst) (a b : Stm) : Stm := fun S => (t S).bind fun x S1 => if x = true then a S1 else b S1
/-- what is never come to -/
def sNo : Stm := fun _ => .st
section
variable {X : Cx} {T : Su} {st : Stmt} {rest : List Stmt} {a b : Stm} {pos : Pos} {e : Expr} {ee : Exp}
theorem z_nil : PSs X [] (TSm T sNil) := pssI pss_nil fun D σ H ⟨S, B, rl, h⟩ => h σ H B rl .rfl'
theorem z_cons (h1 : PS X st (TSm T a)) (h2 : PSs X rest (TSm T b)) : PSs X (st :: rest) (TSm T (sSeq a b)) := pssI (pss_cons h1 h2) fun D σ H ⟨S, B, rl, h⟩ => by
  refine ⟨S, B, rl, ?_⟩
  have h' : PostS T B D ((a S).bind fun f S1 => match f with | .nx => b S1 | f => .ok f S1) := h
  cases e : a S with
  | ok f S1 =>
    rw [e] at h'
    cases f with
    | nx => exact fun σ' H' B' x l => ⟨S1, B', x, PostS.le (r := b S1) h' l⟩
    | bk => exact h'
    | ct => exact h'
    | rt d => exact h'
  | ex c fs S1 => rw [e] at h'; exact h'
  | st => rw [e] at h'; exact h'.elim
theorem z_one (h1 : PS X st (TSm T a)) : PSs X [st] (TSm T a) := pss_one h1
theorem y_pass : PS X (.Pass pos) (TSm T sPass) := psI ps_pass fun D σ H ⟨S, B, rl, h⟩ => h σ H B rl .rfl'
theorem y_brk : PS X (.Break pos) (TSm T sBrk) := psI ps_break fun D σ H ⟨S, B, rl, h⟩ => h σ H B rl .rfl'
theorem y_cnt : PS X (.Continue pos) (TSm T sCnt) := psI ps_continue fun D σ H ⟨S, B, rl, h⟩ => h σ H B rl .rfl'
theorem y_ret (he : PE X e (TEm T ee)) : PS X (.Return (some e) pos) (TSm T (sRet ee)) := psI (ps_ret he) fun D σ H ⟨S, B, rl, h⟩ =>
  ⟨S, B, rl, PostS.bind h fun d S1 v H1 B1 r1 l1 q1 h1 => h1 v σ H1 B1 r1 .rfl' q1⟩
theorem y_retN : PS X (.Return none pos) (TSm T sRetN) := psI ps_retN fun D σ H ⟨S, B, rl, h⟩ => h .non σ H B rl .rfl' .non
theorem y_expr (he : PE X e (TEm T ee)) (hs : swapsWith e none pos.line X.env = pure false := by rfl) : PS X (.Expr e pos) (TSm T (sExpr ee)) := psI (ps_expr he hs) fun D σ H ⟨S, B, rl, h⟩ =>
  ⟨S, B, rl, PostS.bind h fun d S1 v H1 B1 r1 l1 q1 h1 => h1 σ H1 B1 r1 .rfl'⟩
theorem y_if {c : Expr} {x y : List Stmt} {t : Tst} (hc : PT X c (TTm T t)) (ha : PSs X x (TSm T a)) (hb : PSs X y (TSm T b)) : PS X (.If c x y pos) (TSm T (sIf t a b)) := psI (ps_if hc ha hb) fun D σ H ⟨S, B, rl, h⟩ => by
  refine ⟨S, B, rl, PostS.bind h fun k S1 k' H1 B1 r1 l1 q1 h1 => ?_⟩
  cases q1
  cases k with
  | true => exact ⟨S1, B1, r1, h1⟩
  | false => exact ⟨S1, B1, r1, h1⟩
theorem y_no : PS X st (TSm T sNo) := psI ps_never fun _ _ _ ⟨_, _, _, h⟩ => h
theorem z_no : PSs X rest (TSm T sNo) := pssI pss_never fun _ _ _ ⟨_, _, _, h⟩ => h
end

/-! ### targets -/
abbrev Tgt := D → MS → Option MS
def PostG (T : Su) (B : Bd) (Q : L2.St → Hp → Prop) : Option MS → Prop
  | some S' => ∀ σ' H' B', Rl T.toZu S' σ' H' B' → B.le B' → Q σ' H'
  | none => False
theorem PostG.le {T : Su} {B B1 : Bd} {Q : L2.St → Hp → Prop} {o : Option MS} (h : PostG T B Q o) (l : B.le B1) : PostG T B1 Q o := by
  cases o with
  | some S => exact fun σ' H' B' x l' => h σ' H' B' x (l.trans l')
  | none => exact h
def TGm (T : Su) (g : Tgt) : TG := fun v σ H Q => ∃ S B d, Rl T.toZu S σ H B ∧ Rep T.toCfg B d v ∧ PostG T B Q (g d S)
abbrev Tgts := List D → MS → Option MS
def TGsm (T : Su) (g : Tgts) : TGs := fun vs σ H Q => ∃ S B ds, Rl T.toZu S σ H B ∧ RepL T.toCfg B ds vs ∧ PostG T B Q (g ds S)
theorem pgI {X : Cx} {e : Expr} {t t' : TG} (h : PG X e t) (k : ∀ v σ H Q, t' v σ H Q → t v σ H Q) : PG X e t' := ⟨fun pins s σ H v u Q I r q => h.run pins s σ H v u Q I r (k v σ H Q q)⟩
theorem pgsI {X : Cx} {es : List Expr} {t t' : TGs} (h : PGs X es t) (k : ∀ v σ H Q, t' v σ H Q → t v σ H Q) : PGs X es t' := ⟨fun pins s σ H v u Q I r q => h.run pins s σ H v u Q I r (k v σ H Q q)⟩
def gNm (i : Nat) : Tgt := fun d S => if i < S.env.length then some (S.put i (.va d)) else none
def gsNil : Tgts := fun ds S => match ds with
  | [] => some S
  | _ => none
def gsCons (g : Tgt) (gs : Tgts) : Tgts := fun ds S => match ds with
  | d :: ds => (g d S).bind fun S1 => gs ds S1
  | _ => none
def gTp (n : Nat) (gs : Tgts) : Tgt := fun d S => match d with
  | .tup ds => if ds.length = n then gs ds S else none
  | _ => none
section
variable {X : Cx} {T : Su} {pos : Pos} {g : Tgt} {gs : Tgts}
theorem t_name {i : Nat} {x : Str} (hN : X.N.Nodup) (hi : X.N[i]? = some x) (hx : Loc X.env.scope x) (hf : X.fn x = true ∨ X.env.scope.names.lookup x = some .local := by first | exact .inl rfl | exact .inr rfl | assumption) : PG X (.Name x pos) (TGm T (gNm i)) :=
  pgI (pg_name hN hi hx hf) fun v σ H Q ⟨S, B, d, rl, q, h⟩ => by
    unfold gNm at h
    by_cases c : i < S.env.length
    · rw [if_pos c] at h
      exact h _ H B (rl.set c q) .rfl'
    · rw [if_neg c] at h; exact h.elim
theorem ts_nil : PGs X [] (TGsm T gsNil) := pgsI pgs_nil fun vs σ H Q ⟨S, B, ds, rl, q, h⟩ => by
  cases q with
  | nil => exact ⟨rfl, h σ H B rl .rfl'⟩
  | cons _ _ => exact h.elim
theorem ts_cons {e : Expr} {es : List Expr} (h1 : PG X e (TGm T g)) (h2 : PGs X es (TGsm T gs)) (hs : (assignEach (e :: es) X.env).map (·.2) = assign e X.env :: (assignEach es X.env).map (·.2) := by rfl) : PGs X (e :: es) (TGsm T (gsCons g gs)) :=
  pgsI (pgs_cons h1 h2 hs) fun vs σ H Q ⟨S, B, ds, rl, q, h⟩ => by
    cases q with
    | nil => exact h.elim
    | @cons d ds v vs q1 q2 =>
      refine ⟨v, vs, rfl, S, B, d, rl, q1, ?_⟩
      have h' : PostG T B Q ((g d S).bind fun S1 => gs ds S1) := h
      cases e1 : g d S with
      | some S1 =>
        rw [e1] at h'
        exact fun σ1 H1 B1 r1 l1 => ⟨S1, B1, ds, r1, q2.le l1, PostG.le (o := gs ds S1) h' l1⟩
      | none => rw [e1] at h'; exact h'.elim
theorem t_tup {es : List Expr} {k n : Nat} (hK : T.K = X.K) (hc : X.calm = true) (h : PGs X es (TGsm T gs)) (hn : (assignEach es X.env).length = n := by rfl) (hst : (assignEach es X.env).findIdx? (·.1) = none := by rfl) : PG X (.Tuple es k pos) (TGm T (gTp n gs)) :=
  pgI (pg_tup hc h hn hst) fun v σ H Q ⟨S, B, d, rl, q, h⟩ => by
    cases q with
    | @tup ds a xs ha ra =>
      have h' : PostG T B Q (if ds.length = n then gs ds S else none) := h
      by_cases c : ds.length = n
      · rw [if_pos c] at h'
        exact ⟨a, xs, rfl, rl.sqT ha, by rw [← ra.length]; exact c, S, B, ds, rl, ra, h'⟩
      · rw [if_neg c] at h'; exact h'.elim
    | _ => exact h.elim
end

/-! ### x = e -/
def sSet (i : Nat) (e : Exp) : Stm := fun S => (e S).bind fun d S1 => if i < S1.env.length then .ok .nx (S1.put i (.va d)) else .st
def liftG (o : Option MS) : R Fl := match o with
  | some S => .ok .nx S
  | none => .st
def sAsg (g : Tgt) (e : Exp) : Stm := fun S => (e S).bind fun d S1 => liftG (g d S1)
theorem liftG_post {T : Su} {B : Bd} {D : Ends} {o : Option MS} (h : PostS T B D (liftG o)) : PostG T B D.nx o := by
  cases o with
  | some S => exact h
  | none => exact h.elim
section
variable {X : Cx} {T : Su} {pos pos' : Pos} {g : Tgt} {e : Expr} {ee : Exp}
theorem set_of {i : Nat} {D : Ends} {σ : L2.St} {H : Hp} (h : TSm T (sSet i ee) D σ H) : tAsg (TEm T ee) (gName i) D σ H := by
  obtain ⟨S, B, rl, h⟩ := h
  refine ⟨S, B, rl, PostS.bind h fun d S1 v H1 B1 r1 l1 q1 h1 => ?_⟩
  by_cases c : i < S1.env.length
  · rw [if_pos c] at h1
    exact h1 _ H1 B1 (r1.set c q1) .rfl'
  · rw [if_neg c] at h1; exact h1.elim
theorem y_set {i : Nat} {x : Str} (hN : X.N.Nodup) (hi : X.N[i]? = some x) (hx : Loc X.env.scope x) (he : PE X e (TEm T ee)) (hs : swapsWith e (some (.Name x pos')) pos.line X.env = pure false := by rfl)
    (hf : X.fn x = true ∨ X.env.scope.names.lookup x = some .local := by first | exact .inl rfl | exact .inr rfl | assumption) : PS X (.Assign [.Name x pos'] e pos) (TSm T (sSet i ee)) :=
  psI (ps_set hN hi hx he hs hf) fun D σ H h => set_of h
theorem y_asg {tg : Expr} (he : PE X e (TEm T ee)) (hg : PG X tg (TGm T g)) (hs : swapsWithSole [tg] e pos.line X.env = pure false := by rfl) (hw : swappedStores [tg] e X.env = pure none := by rfl)
    (h1 : (assignEach [tg] X.env).map (·.2) = [assign tg X.env] := by rfl) : PS X (.Assign [tg] e pos) (TSm T (sAsg g ee)) := psI (ps_asg he hg hs hw h1) fun D σ H ⟨S, B, rl, h⟩ =>
  ⟨S, B, rl, PostS.bind h fun d S1 v H1 B1 r1 l1 q1 h1 => ⟨S1, B1, d, r1, q1, liftG_post h1⟩⟩
/-- a, b = x, y of plain local names -/
def sPar2 (i j : Nat) (as : Exps) : Stm := fun S => (as S).bind fun ds S1 => match ds with
  | [a, b] => if i < S1.env.length ∧ j < S1.env.length then .ok .nx ((S1.put i (.va a)).put j (.va b)) else .st
  | _ => .st
theorem y_par2 {i j : Nat} {x y : Str} {a b : Expr} {ees : Exps} {px py pt : Pos} {kt k2 pt2} (hc : X.calm = true) (hN : X.N.Nodup) (hi : X.N[i]? = some x) (hj : X.N[j]? = some y) (hij : i ≠ j)
    (hx : X.env.scope.names.lookup x = some .local) (hy : X.env.scope.names.lookup y = some .local) (ha : PA X [a, b] (TAm T ees))
    (hw : swappedStores [.Tuple [.Name x px, .Name y py] kt pt] (.Tuple [a, b] k2 pt2) X.env = pure (some [x, y]))
    (hs : swapsWithSole [.Tuple [.Name x px, .Name y py] kt pt] (.Tuple [a, b] k2 pt2) pos.line X.env = pure false := by rfl) :
    PS X (.Assign [.Tuple [.Name x px, .Name y py] kt pt] (.Tuple [a, b] k2 pt2) pos) (TSm T (sPar2 i j ees)) := psI (ps_par hc hN hi hj hij hx hy ha hw hs) fun D σ H ⟨S, B, rl, h⟩ => by
  refine ⟨S, B, rl, PostS.bind h fun ds S1 vs H1 B1 r1 l1 q1 h1 => ?_⟩
  cases q1 with
  | nil => exact h1.elim
  | cons q1 q2 =>
    cases q2 with
    | nil => exact h1.elim
    | cons q2 q3 =>
      cases q3 with
      | cons _ _ => exact h1.elim
      | nil =>
        rename_i d1 v1 d2 v2
        refine ⟨v1, v2, rfl, ?_⟩
        have h' : PostS T B1 D (if i < S1.env.length ∧ j < S1.env.length then .ok .nx ((S1.put i (.va d1)).put j (.va d2)) else .st) := h1
        by_cases c : i < S1.env.length ∧ j < S1.env.length
        · rw [if_pos c] at h'
          have r2 := r1.set c.1 q1
          exact h' _ H1 B1 (r2.set (by show j < (S1.env.set i _).length; rw [List.length_set]; exact c.2) q2) .rfl'
        · rw [if_neg c] at h'; exact h'.elim
def sPar3 (i j l : Nat) (as : Exps) : Stm := fun S => (as S).bind fun ds S1 => match ds with
  | [a, b, c] => if i < S1.env.length ∧ j < S1.env.length ∧ l < S1.env.length then .ok .nx (((S1.put i (.va a)).put j (.va b)).put l (.va c)) else .st
  | _ => .st
theorem y_par3 {i j l : Nat} {x y z : Str} {a b c : Expr} {ees : Exps} {px py pz pt : Pos} {kt k2 pt2} (hc : X.calm = true) (hN : X.N.Nodup) (hi : X.N[i]? = some x) (hj : X.N[j]? = some y) (hl : X.N[l]? = some z) (hij : i ≠ j) (hil : i ≠ l) (hjl : j ≠ l)
    (hx : X.env.scope.names.lookup x = some .local) (hy : X.env.scope.names.lookup y = some .local) (hz : X.env.scope.names.lookup z = some .local) (ha : PA X [a, b, c] (TAm T ees))
    (hw : swappedStores [.Tuple [.Name x px, .Name y py, .Name z pz] kt pt] (.Tuple [a, b, c] k2 pt2) X.env = pure (some [x, y, z]))
    (hs : swapsWithSole [.Tuple [.Name x px, .Name y py, .Name z pz] kt pt] (.Tuple [a, b, c] k2 pt2) pos.line X.env = pure false := by rfl) :
    PS X (.Assign [.Tuple [.Name x px, .Name y py, .Name z pz] kt pt] (.Tuple [a, b, c] k2 pt2) pos) (TSm T (sPar3 i j l ees)) := psI (ps_par3 hc hN hi hj hl hij hil hjl hx hy hz ha hw hs) fun D σ H ⟨S, B, rl, h⟩ => by
  refine ⟨S, B, rl, PostS.bind h fun ds S1 vs H1 B1 r1 l1 q1 h1 => ?_⟩
  cases q1 with
  | nil => exact h1.elim
  | cons q1 q2 =>
    cases q2 with
    | nil => exact h1.elim
    | cons q2 q3 =>
      cases q3 with
      | nil => exact h1.elim
      | cons q3 q4 =>
        cases q4 with
        | cons _ _ => exact h1.elim
        | nil =>
          rename_i d1 v1 d2 v2 d3 v3
          refine ⟨v1, v2, v3, rfl, ?_⟩
          have h' : PostS T B1 D (if i < S1.env.length ∧ j < S1.env.length ∧ l < S1.env.length then .ok .nx (((S1.put i (.va d1)).put j (.va d2)).put l (.va d3)) else .st) := h1
          by_cases c : i < S1.env.length ∧ j < S1.env.length ∧ l < S1.env.length
          · rw [if_pos c] at h'
            have r2 := r1.set c.1 q1
            have r3 := r2.set (by show j < (S1.env.set i _).length; rw [List.length_set]; exact c.2.1) q2
            exact h' _ H1 B1 (r3.set (by show l < ((S1.env.set i _).set j _).length; rw [List.length_set, List.length_set]; exact c.2.2) q3) .rfl'
          · rw [if_neg c] at h'; exact h'.elim
/-- x op= e of numbers, texts .. -/
def sAug (i : Nat) (g : D → D → Option D) (e : Exp) : Stm := fun S => match S.env[i]? with
  | some (.va x) => (e S).bind fun y S1 => match g x y with
    | some d => if i < S1.env.length then .ok .nx (S1.put i (.va d)) else .st
    | none => .st
  | _ => .st
theorem y_aug {i : Nat} {x : Str} {op : Operator} {r : R2} {gg : D → D → Option D} (hN : X.N.Nodup) (hi : X.N[i]? = some x) (hx : Loc X.env.scope x) (he : PE X e (TEm T ee)) (ho : OpR X (inplaceOp op) r) (hg : Bin T.toCfg r gg)
    (hf : X.fn x = true ∨ X.env.scope.names.lookup x = some .local := by first | exact .inl rfl | exact .inr rfl | assumption) : PS X (.AugAssign (.Name x pos') op e pos) (TSm T (sAug i gg ee)) :=
  psI (ps_aug (ti := r) hN hi hx he (fun pins s σ H x y v u Q I rx ry q => ho pins s σ H x y v u Q I rx ry q) hf) fun D σ H ⟨S, B, rl, h⟩ => by
    unfold sAug at h
    cases es : S.env[i]? with
    | none => rw [es] at h; exact h.elim
    | some sl =>
      rw [es] at h
      have x0 := rl.sl i sl es
      cases sl with
      | va d =>
        obtain ⟨v, ev, q⟩ := x0
        refine ⟨v, ev, S, B, rl, PostS.bind h fun y S1 w H1 B1 r1 l1 q1 h1 => ?_⟩
        cases e2 : gg d y with
        | none => rw [e2] at h1; exact h1.elim
        | some d2 =>
          rw [e2] at h1
          have h' : PostS T B1 D (if i < S1.env.length then .ok .nx (S1.put i (.va d2)) else .st) := h1
          by_cases c : i < S1.env.length
          · rw [if_pos c] at h'
            exact hg (Z := T.Z) r1 (q.le l1) q1 e2 fun u H2 B2 r2 l2 q2 => h' _ H2 B2 (r2.set c q2) l2
          · rw [if_neg c] at h'; exact h'.elim
      | _ => exact h.elim
end

/-! ### a fresh list or dict of its own -/
abbrev Frs := MS → R Sl
def PostF (T : Su) (σ : L2.St) (B : Bd) (Q : VK) : R Sl → Prop
  | .ok s S' => ∀ p o H' B', H' p = none → Rl T.toZu S' σ H' B' → B.le B' → s.live = true → SlOk T.toZu B' (upd H' p o) s (some (some (.ref p))) → Q (.ref p) (upd H' p o)
  | .ex c fs S' => ∀ C d H' B', T.cls c = some C → XdOk T.toCfg B' d fs → Rl T.toZu S' σ H' B' → B.le B' → T.W (.ref C) d σ H'
  | .st => False
def TFm (T : Su) (f : Frs) : TE := fun σ H Q => ∃ S B, Rl T.toZu S σ H B ∧ PostF T σ B Q (f S)
def sOwn (i : Nat) (f : Frs) : Stm := fun S => (f S).bind fun s S1 => if i < S1.env.length then .ok .nx (S1.put i s) else .st
theorem PostF.of {T : Su} {σ : L2.St} {B : Bd} {E : Ends} {Q : VK} {r : R Sl} {f : Sl → MS → R Fl} (h : PostS T B E (r.bind f))
    (k : ∀ s S1 p o H1 B1, H1 p = none → Rl T.toZu S1 σ H1 B1 → B.le B1 → s.live = true → SlOk T.toZu B1 (upd H1 p o) s (some (some (.ref p))) → PostS T B1 E (f s S1) → Q (.ref p) (upd H1 p o)) : PostF T σ B Q r := by
  cases r with
  | ok s S => exact fun p o H' B' hp x l lv e => k s S p o H' B' hp x l lv e (PostS.le (r := f s S) h l)
  | ex c fs S => exact fun C d H' B' e z x l => h C d σ H' B' e z x l
  | st => exact h
section
variable {X : Cx} {T : Su} {pos pos' : Pos} {e : Expr} {f : Frs}
theorem own_of {i : Nat} {D : Ends} {σ : L2.St} {H : Hp} (h : TSm T (sOwn i f) D σ H) : tAsg (TFm T f) (gName i) D σ H := by
  obtain ⟨S, B, rl, h⟩ := h
  refine ⟨S, B, rl, PostF.of h fun s S1 p o H1 B1 hp r1 l1 lv q1 h1 => ?_⟩
  by_cases c : i < S1.env.length
  · rw [if_pos c] at h1
    exact h1 _ _ B1 (r1.setOwn c hp q1) .rfl'
  · rw [if_neg c] at h1; exact h1.elim
theorem y_own {i : Nat} {x : Str} (hN : X.N.Nodup) (hi : X.N[i]? = some x) (hx : Loc X.env.scope x) (he : PE X e (TFm T f)) (hs : swapsWith e (some (.Name x pos')) pos.line X.env = pure false := by rfl)
    (hf : X.fn x = true ∨ X.env.scope.names.lookup x = some .local := by first | exact .inl rfl | exact .inr rfl | assumption) : PS X (.Assign [.Name x pos'] e pos) (TSm T (sOwn i f)) :=
  psI (ps_set hN hi hx he hs hf) fun D σ H h => own_of h
def fLst (as : Exps) : Frs := fun S => (as S).bind fun xs S1 => if xs.length ≤ sizeLine then .ok (.ol xs) S1 else .st
theorem PostR.toF {α β : Type} {T : Su} {σ : L2.St} {B : Bd} {Q : VK} {rel : Bd → α → β → Prop} {P : β → Hp → Prop} {r : R α} {f : α → MS → R Sl} (h : PostF T σ B Q (r.bind f))
    (k : ∀ a S1 b H1 B1, Rl T.toZu S1 σ H1 B1 → B.le B1 → rel B1 a b → PostF T σ B1 Q (f a S1) → P b H1) : PostR T σ B rel P r := by
  cases r with
  | ok a S =>
    refine fun b H' B' x l e => k a S b H' B' x l e ?_
    have h' : PostF T σ B Q (f a S) := h
    cases e2 : f a S with
    | ok s S2 => rw [e2] at h'; exact fun p o H2 B2 hp r2 l2 => h' p o H2 B2 hp r2 (l.trans l2)
    | ex c fs S2 => rw [e2] at h'; exact fun C d H2 B2 e z r2 l2 => h' C d H2 B2 e z r2 (l.trans l2)
    | st => rw [e2] at h'; exact h'.elim
  | ex c fs S => exact h
  | st => exact h
theorem f_lst {es : List Expr} {ees : Exps} (h : PA X es (TAm T ees)) : PE X (.List es pos) (TFm T (fLst ees)) := peI (pe_lst h) fun σ H Q ⟨S, B, rl, h⟩ => by
  refine ⟨S, B, rl, PostR.toF h fun xs S1 vs H1 B1 r1 l1 q1 h1 => ?_⟩
  by_cases c : xs.length ≤ sizeLine
  · rw [if_pos c] at h1
    refine ⟨by rw [← q1.length]; exact c, fun p hp => h1 p _ H1 B1 hp r1 .rfl' rfl ⟨p, vs, rfl, upd_same, q1⟩⟩
  · rw [if_neg c] at h1; exact h1.elim
def fDic (t : Bool) : Frs := fun S => .ok (.od t []) S
theorem f_dicK : PE X (.Dict [] [] pos) (TFm T (fDic false)) := peI pe_dnewK fun σ H Q ⟨S, B, rl, h⟩ p hp => h p _ H B hp rl .rfl' rfl ⟨p, rfl, .inl ⟨rfl, [], upd_same, .nil⟩⟩
theorem f_dicT : PE X (.Dict [] [] pos) (TFm T (fDic true)) := peI pe_dnewT fun σ H Q ⟨S, B, rl, h⟩ p hp => h p _ H B hp rl .rfl' rfl ⟨p, rfl, .inr ⟨rfl, [], upd_same, .nil⟩⟩
/-- a fresh list as a value -/
def eFr (f : Frs) : Exp := fun S => (f S).bind fun s S1 => match s with
  | .ol ds => .ok (.lst ds) S1
  | .od t kvs => .ok (.dic t kvs) S1
  | _ => .st
theorem r_fr (h : PE X e (TFm T f)) : PE X e (TEm T (eFr f)) := peI h fun σ H Q ⟨S, B, rl, h⟩ => by
  refine ⟨S, B, rl, ?_⟩
  have h' : PostR T σ B (RelD T) Q ((f S).bind fun s S1 => match s with | .ol ds => .ok (.lst ds) S1 | .od t kvs => .ok (.dic t kvs) S1 | _ => .st) := h
  cases e1 : f S with
  | st => rw [e1] at h'; exact h'.elim
  | ex c fs S1 => rw [e1] at h'; exact h'
  | ok s S1 =>
    rw [e1] at h'
    intro p o H1 B1 hp r1 l1 lv q1
    cases s with
    | un => cases lv
    | va d => cases lv
    | xc c fs => cases lv
    | oi c fs => exact h'.elim
    | ol ds =>
      obtain ⟨a, xs, ea, k, q⟩ := q1
      cases ea
      have le := Bd.le_add (o := o) (r1.gnone hp)
      rw [upd_same] at k
      cases k
      exact h' _ _ _ (r1.alloc hp _) (l1.trans le) (.lst upd_same (q.le le))
    | od t kvs =>
      obtain ⟨a, ea, q⟩ := q1
      cases ea
      have le := Bd.le_add (o := o) (r1.gnone hp)
      rcases q with ⟨rfl, ks, k, q⟩ | ⟨rfl, ks, k, q⟩
      · rw [upd_same] at k
        cases k
        exact h' _ _ _ (r1.alloc hp _) (l1.trans le) (.dic upd_same (q.le le))
      · rw [upd_same] at k
        cases k
        exact h' _ _ _ (r1.alloc hp _) (l1.trans le) (.dit upd_same (q.le le))
end
end Mir
/-! Mir7: what is walked, for, while, comprehensions. -/
namespace Mir
open PySem PySem.Spec PyProof.Rows L2

/-- J gives the items ds, one after the other -/
structure ItOk (T : Zu) (J : It) (ds : List D) (B : Bd) : Prop where
  go : ∀ (i : Nat) (S : MS) (σ : L2.St) (H : Hp) (B1 : Bd) (d : D), Rl T S σ H B1 → B.lg B1 → ds[i]? = some d → J.go i H ∧ ∀ x H', J.yld i H x H' → ∃ B2, Rl T S σ H' B2 ∧ B1.le B2 ∧ Rep T.toCfg B2 d x
  stop : ∀ (i : Nat) (S : MS) (σ : L2.St) (H : Hp) (B1 : Bd), Rl T S σ H B1 → B.lg B1 → ds.length ≤ i → J.stop i H
def PostI (T : Su) (σ : L2.St) (B : Bd) (R' : It → Hp → Prop) : R (List D) → Prop
  | .ok ds S' => ∀ J H' B', Rl T.toZu S' σ H' B' → B.le B' → ItOk T.toZu J ds B' → R' J H'
  | .ex c fs S' => ∀ C d H' B', T.cls c = some C → XdOk T.toCfg B' d fs → Rl T.toZu S' σ H' B' → B.le B' → T.W (.ref C) d σ H'
  | .st => False
def TIm (T : Su) (its : Exps) : TI := fun σ H R' => ∃ S B, Rl T.toZu S σ H B ∧ PostI T σ B R' (its S)
theorem piI {X : Cx} {tg it : Expr} {t t' : TI} (h : PI X tg it t) (k : ∀ σ H R', t' σ H R' → t σ H R') : PI X tg it t' := ⟨fun pins s σ H R' I q => h.run pins s σ H R' I (k σ H R' q)⟩
theorem PostI.le {T : Su} {σ : L2.St} {B B1 : Bd} {Q : It → Hp → Prop} {r : R (List D)} (h : PostI T σ B Q r) (l : B.le B1) : PostI T σ B1 Q r := by
  cases r with
  | ok ds S => exact fun J H' B' x l' o => h J H' B' x (l.trans l') o
  | ex c fs S => exact fun C d H' B' e z x l' => h C d H' B' e z x (l.trans l')
  | st => exact h
theorem PostI.bind {α β : Type} {T : Su} {σ : L2.St} {B : Bd} {Q : It → Hp → Prop} {rel : Bd → α → β → Prop} {P : β → Hp → Prop} {r : R α} {f : α → MS → R (List D)} (h : PostI T σ B Q (r.bind f))
    (k : ∀ a S1 b H1 B1, Rl T.toZu S1 σ H1 B1 → B.le B1 → rel B1 a b → PostI T σ B1 Q (f a S1) → P b H1) : PostR T σ B rel P r := by
  cases r with
  | ok a S => exact fun b H' B' x l e => k a S b H' B' x l e (PostI.le (r := f a S) h l)
  | ex c fs S => exact h
  | st => exact h

/-! ### a list, a tuple, a text -/
def iSeqD : D → Option (List D)
  | .lst ds => some ds
  | .tup ds => some ds
  | .str z => some (z.cps.toList.map fun c => .str ⟨#[c]⟩)
  | _ => none
def liftL (S : MS) : Option (List D) → R (List D)
  | some d => .ok d S
  | none => .st
def iSeq (e : Exp) : Exps := fun S => (e S).bind fun d S1 => liftL S1 (iSeqD d)
def iSeqT (K : PySem.W.Frag) (tl : TE) : TI := fun σ H R' => tl σ H fun x H1 => (∃ a, x = .ref a ∧ (∃ xs, SqL K H1 a xs) ∧ R' (Itl K a) H1) ∨ (∃ a, x = .ref a ∧ (∃ xs, SqT K H1 a xs) ∧ R' (Itt K a) H1) ∨ ∃ z, x = .str z ∧ R' (Its z) H1
theorem pi_any {X : Cx} {tg l : Expr} {tl : TE} (hl : PE X l tl) : PI X tg l (iSeqT X.K tl) := by
  refine ⟨fun pins s σ H R' I h => ?_⟩
  -- each of the three, from the expression's own end
  have one : ∀ (v : Value) (s1 : Shared) (x : V) (H1 : Hp), Inv X pins σ H1 s1 → RelV x v →
      ((∃ a, x = .ref a ∧ (∃ xs, SqL X.K H1 a xs) ∧ R' (Itl X.K a) H1) ∨ (∃ a, x = .ref a ∧ (∃ xs, SqT X.K H1 a xs) ∧ R' (Itt X.K a) H1) ∨ ∃ z, x = .str z ∧ R' (Its z) H1) →
      wpAny (model X.prog X.w) X.A (pyIter v) (PIE X pins σ tg R') X.xe s1 := by
    intro v s1 x H1 I1 r1 q1
    rcases q1 with ⟨a, e, ⟨xs, hq⟩, q⟩ | ⟨a, e, ⟨xs, hq⟩, q⟩ | ⟨z, e, q⟩
    · subst e
      cases r1
      obtain ⟨its, rv, p, hz⟩ := I1.list hq
      refine wpAny_pyIter_list p.isList ?_
      refine ⟨s1.heap.objs.size, [s1.heap.objs.size], _, _, H1, rfl, I1.kept (t' := s1.toks) fun b o e => Heap.get?_push_of_some _ e, turn_list a _, ⟨_, Heap.get?_push_size _ rfl, rfl, rfl⟩, fun b hb => ?_, q⟩
      have e : b = s1.heap.objs.size := by simpa using hb
      subst e
      exact I1.fpOk (Nat.le_refl _) (I1.hok.fresh (Nat.le_refl _))
    · subst e
      cases r1
      obtain ⟨its, rv, p, hz⟩ := I1.tuple hq
      refine wpAny_pyIter_tuple (show s1.heap.IsTuple a its.toArray from p) ?_
      refine ⟨s1.heap.objs.size, [s1.heap.objs.size], _, _, H1, rfl, I1.kept (t' := s1.toks) fun b o e => Heap.get?_push_of_some _ e, turn_tuple a _, ⟨_, Heap.get?_push_size _ rfl, rfl, rfl⟩, fun b hb => ?_, q⟩
      have e : b = s1.heap.objs.size := by simpa using hb
      subst e
      exact I1.fpOk (Nat.le_refl _) (I1.hok.fresh (Nat.le_refl _))
    · subst e
      obtain ⟨t, rfl⟩ := r1
      cases ha : z.cps.all (· < 128)
      · exact wpAny_pyIter_wide ha (pi_one (tk := s1.toks) I1 _ (turn_str _ z t "str_iterator" (.inr rfl)) ⟨_, Heap.get?_push_size _ rfl, rfl, rfl⟩ q)
      · exact wpAny_pyIter_ascii ha (pi_one (tk := s1.toks) I1 _ (turn_str _ z t "str_ascii_iterator" (.inl rfl)) ⟨_, Heap.get?_push_size _ rfl, rfl, rfl⟩ q)
  exact thn (hl.run pins s σ H _ I h) fun v s1 ⟨x, H1, I1, r1, q1⟩ => one v s1 x H1 I1 r1 q1
theorem itOk_list {T : Zu} {ds : List D} {a : Addr} {xs : List V} {B : Bd} (ha : B.G a = some (.lst xs)) (ra : RepL T.toCfg B ds xs) : ItOk T (Itl T.K a) ds B := by
  refine ⟨fun i S σ H B1 d rl l e => ?_, fun i S σ H B1 rl l h => ⟨xs, SqL.of (rl.lst (l.g _ _ ha)), by rw [← ra.length]; exact h⟩⟩
  obtain ⟨x, ex, rx⟩ := ra.get e
  have hs : SqL T.K H a xs := SqL.of (rl.lst (l.g _ _ ha))
  refine ⟨⟨xs, x, hs, ex⟩, fun y H' hy => ?_⟩
  obtain ⟨e1, e2⟩ := hy
  subst e1
  have e3 := e2 xs hs
  rw [ex] at e3
  cases e3
  exact ⟨B1, rl, .rfl', rx.lg l⟩
theorem itOk_tup {T : Zu} {ds : List D} {a : Addr} {xs : List V} {B : Bd} (ha : B.G a = some (.tup xs)) (ra : RepL T.toCfg B ds xs) : ItOk T (Itt T.K a) ds B := by
  refine ⟨fun i S σ H B1 d rl l e => ?_, fun i S σ H B1 rl l h => ⟨xs, rl.sqT (l.g _ _ ha), by rw [← ra.length]; exact h⟩⟩
  obtain ⟨x, ex, rx⟩ := ra.get e
  have hs : SqT T.K H a xs := rl.sqT (l.g _ _ ha)
  refine ⟨⟨xs, x, hs, ex⟩, fun y H' hy => ?_⟩
  obtain ⟨e1, e2⟩ := hy
  subst e1
  have e3 := e2 xs hs
  rw [ex] at e3
  cases e3
  exact ⟨B1, rl, .rfl', rx.lg l⟩
theorem itOk_str {T : Zu} {z : Str} {B : Bd} : ItOk T (Its z) (z.cps.toList.map fun c => .str ⟨#[c]⟩) B := by
  refine ⟨fun i S σ H B1 d rl l e => ?_, fun i S σ H B1 rl l h => ?_⟩
  · rw [List.getElem?_map] at e
    obtain ⟨c, ec, e⟩ := Option.map_eq_some_iff.mp e
    subst e
    have hi : i < z.cps.size := by
      have := (List.getElem?_eq_some_iff.mp ec).1
      simpa using this
    refine ⟨hi, fun y H' hy => ?_⟩
    obtain ⟨e1, c', e2, e3⟩ := hy
    subst e1 e3
    have e4 : z.cps[i]? = some c := by rw [← Array.getElem?_toList]; exact ec
    rw [e4] at e2
    cases e2
    exact ⟨B1, rl, .rfl', .str _⟩
  · show z.cps.size ≤ i
    simpa using h
theorem i_seq {X : Cx} {T : Su} {tg l : Expr} {el : Exp} (hK : T.K = X.K) (hl : PE X l (TEm T el)) : PI X tg l (TIm T (iSeq el)) := piI (pi_any hl) fun σ H R' ⟨S, B, rl, h⟩ => by
  refine ⟨S, B, rl, PostI.bind h fun d S1 v H1 B1 r1 l1 q1 h1 => ?_⟩
  cases q1 with
  | @lst ds a xs ha ra => exact .inl ⟨a, rfl, ⟨xs, SqL.of (r1.lst ha)⟩, hK ▸ h1 _ H1 B1 r1 .rfl' (itOk_list ha ra)⟩
  | @tup ds a xs ha ra => exact .inr (.inl ⟨a, rfl, ⟨xs, r1.sqT ha⟩, hK ▸ h1 _ H1 B1 r1 .rfl' (itOk_tup ha ra)⟩)
  | str z => exact .inr (.inr ⟨z, rfl, h1 _ H1 B1 r1 .rfl' itOk_str⟩)
  | _ => exact h1.elim

/-! ### range -/
def rngD (lo : Int) (n : Nat) : List D := (List.range n).map fun i => .int (lo + (i : Nat))
def rngC (lo c : Int) (n : Nat) : List D := (List.range n).map fun i => .int (lo + (i : Nat) * c)
def iRange1 (as : Exps) : Exps := fun S => (as S).bind fun ds S1 => match ds with
  | [.int j] => if -(2 ^ 62) ≤ j ∧ j < 2 ^ 62 then .ok (rngD 0 j.toNat) S1 else .st
  | _ => .st
def iRange2 (as : Exps) : Exps := fun S => (as S).bind fun ds S1 => match ds with
  | [.int i, .int j] => if -(2 ^ 62) ≤ i ∧ i < 2 ^ 62 ∧ -(2 ^ 62) ≤ j ∧ j < 2 ^ 62 then .ok (rngD i (j - i).toNat) S1 else .st
  | _ => .st
/-- range(i, j, -1) -/
def iRangeDn (as : Exps) : Exps := fun S => (as S).bind fun ds S1 => match ds with
  | [.int i, .int j, .int c] => if c = -1 ∧ -(2 ^ 62) ≤ i ∧ i < 2 ^ 62 ∧ -(2 ^ 62) ≤ j ∧ j < 2 ^ 62 then .ok (rngC i (-1) (i - j).toNat) S1 else .st
  | _ => .st
theorem itOk_rng {T : Zu} {lo : Int} {n : Nat} {B : Bd} : ItOk T (Itr lo n) (rngD lo n) B := by
  refine ⟨fun i S σ H B1 d rl l e => ?_, fun i S σ H B1 rl l h => ?_⟩
  · unfold rngD at e
    rw [List.getElem?_map] at e
    obtain ⟨c, ec, ed⟩ := Option.map_eq_some_iff.mp e
    have hi : i < n := by
      have := (List.getElem?_eq_some_iff.mp ec).1
      simpa using this
    have e2 : c = i := by rw [List.getElem?_range hi] at ec; exact (Option.some.inj ec).symm
    subst e2
    subst ed
    refine ⟨hi, fun y H' hy => ?_⟩
    obtain ⟨e1, e3⟩ := hy
    subst e1 e3
    exact ⟨B1, rl, .rfl', .int _⟩
  · show n ≤ i
    simpa [rngD] using h
theorem itOk_rngC {T : Zu} {lo c : Int} {n : Nat} {B : Bd} : ItOk T (Itc lo c n) (rngC lo c n) B := by
  refine ⟨fun i S σ H B1 d rl l e => ?_, fun i S σ H B1 rl l h => ?_⟩
  · unfold rngC at e
    rw [List.getElem?_map] at e
    obtain ⟨k, ec, ed⟩ := Option.map_eq_some_iff.mp e
    have hi : i < n := by
      have := (List.getElem?_eq_some_iff.mp ec).1
      simpa using this
    have e2 : k = i := by rw [List.getElem?_range hi] at ec; exact (Option.some.inj ec).symm
    subst e2
    subst ed
    refine ⟨hi, fun y H' hy => ?_⟩
    obtain ⟨e1, e3⟩ := hy
    subst e1 e3
    exact ⟨B1, rl, .rfl', .int _⟩
  · show n ≤ i
    simpa [rngC] using h
section
variable {X : Cx} {T : Su} {tg a b c : Expr} {ees : Exps} {p pos : Pos}
theorem i_range1 (hg : Gl X "range") (hm : X.mg "range" = none) (ha : PA X [a] (TAm T ees)) (hs : starEach [a] X.env = [(false, eval a X.env)] := by rfl) : PI X tg (.Call (.Name "range" p) [a] [] pos) (TIm T (iRange1 ees)) := piI (pi_range1 hg hm ha hs) fun σ H R' ⟨S, B, rl, h⟩ => by
  refine ⟨S, B, rl, PostI.bind h fun ds S1 vs H1 B1 r1 l1 q1 h1 => ?_⟩
  cases q1 with
  | nil => exact h1.elim
  | cons q1 q2 =>
    cases q1 <;> first | exact h1.elim | skip
    rename_i j
    cases q2 with
    | cons _ _ => exact h1.elim
    | nil =>
      have h' : PostI T σ B1 R' (if -(2 ^ 62) ≤ j ∧ j < 2 ^ 62 then .ok (rngD 0 j.toNat) S1 else .st) := h1
      by_cases c : -(2 ^ 62) ≤ j ∧ j < 2 ^ 62
      · rw [if_pos c] at h'
        exact ⟨j, rfl, c.1, c.2, h' _ H1 B1 r1 .rfl' itOk_rng⟩
      · rw [if_neg c] at h'; exact h'.elim
theorem i_range2 (hg : Gl X "range") (hm : X.mg "range" = none) (ha : PA X [a, b] (TAm T ees)) (hs : starEach [a, b] X.env = [(false, eval a X.env), (false, eval b X.env)] := by rfl) (hs2 : starEach [b] X.env = [(false, eval b X.env)] := by rfl) :
    PI X tg (.Call (.Name "range" p) [a, b] [] pos) (TIm T (iRange2 ees)) := piI (pi_range2 hg hm ha hs hs2) fun σ H R' ⟨S, B, rl, h⟩ => by
  refine ⟨S, B, rl, PostI.bind h fun ds S1 vs H1 B1 r1 l1 q1 h1 => ?_⟩
  cases q1 with
  | nil => exact h1.elim
  | cons q1 q2 =>
    cases q1 <;> first | exact h1.elim | skip
    rename_i i
    cases q2 with
    | nil => exact h1.elim
    | cons q2 q3 =>
      cases q2 <;> first | exact h1.elim | skip
      rename_i j
      cases q3 with
      | cons _ _ => exact h1.elim
      | nil =>
        have h' : PostI T σ B1 R' (if -(2 ^ 62) ≤ i ∧ i < 2 ^ 62 ∧ -(2 ^ 62) ≤ j ∧ j < 2 ^ 62 then .ok (rngD i (j - i).toNat) S1 else .st) := h1
        by_cases c : -(2 ^ 62) ≤ i ∧ i < 2 ^ 62 ∧ -(2 ^ 62) ≤ j ∧ j < 2 ^ 62
        · rw [if_pos c] at h'
          exact ⟨i, j, rfl, c, h' _ H1 B1 r1 .rfl' itOk_rng⟩
        · rw [if_neg c] at h'; exact h'.elim
theorem i_rangeDn (hg : Gl X "range") (hm : X.mg "range" = none) (ha : PA X [a, b, c] (TAm T ees)) (hs : starEach [a, b, c] X.env = (false, eval a X.env) :: starEach [b, c] X.env := by rfl) (hpl : (backTo pos (starEach [b, c] X.env)).any (·.1) = false := by rfl) :
    PI X tg (.Call (.Name "range" p) [a, b, c] [] pos) (TIm T (iRangeDn ees)) := piI (pi_range3 hg hm ha hs hpl) fun σ H R' ⟨S, B, rl, h⟩ => by
  refine ⟨S, B, rl, PostI.bind h fun ds S1 vs H1 B1 r1 l1 q1 h1 => ?_⟩
  cases q1 with
  | nil => exact h1.elim
  | cons q1 q2 =>
    cases q1 <;> first | exact h1.elim | skip
    rename_i i
    cases q2 with
    | nil => exact h1.elim
    | cons q2 q3 =>
      cases q2 <;> first | exact h1.elim | skip
      rename_i j
      cases q3 with
      | nil => exact h1.elim
      | cons q3 q4 =>
        cases q3 <;> first | exact h1.elim | skip
        rename_i k
        cases q4 with
        | cons _ _ => exact h1.elim
        | nil =>
          have h' : PostI T σ B1 R' (if k = -1 ∧ -(2 ^ 62) ≤ i ∧ i < 2 ^ 62 ∧ -(2 ^ 62) ≤ j ∧ j < 2 ^ 62 then .ok (rngC i (-1) (i - j).toNat) S1 else .st) := h1
          by_cases c : k = -1 ∧ -(2 ^ 62) ≤ i ∧ i < 2 ^ 62 ∧ -(2 ^ 62) ≤ j ∧ j < 2 ^ 62
          · rw [if_pos c] at h'
            obtain ⟨rfl, c1, c2, c3, c4⟩ := c
            exact ⟨i, j, -1, _, rfl, RgC.neg c1 c2 c3 c4, h' _ H1 B1 r1 .rfl' itOk_rngC⟩
          · rw [if_neg c] at h'; exact h'.elim
end

/-! ### for -/
def forL (g : Tgt) (body : Stm) : List D → MS → R Fl
  | [], S => .ok .nx S
  | d :: ds, S => match g d S with
    | none => .st
    | some S1 => match body S1 with
      | .ok .nx S2 => forL g body ds S2
      | .ok .ct S2 => forL g body ds S2
      | .ok .bk S2 => .ok .nx S2
      | .ok (.rt r) S2 => .ok (.rt r) S2
      | .ex c fs S2 => .ex c fs S2
      | .st => .st
def sFor (its : Exps) (g : Tgt) (body : Stm) : Stm := fun S => (its S).bind fun ds S1 => forL g body ds S1
theorem PostS.toI {T : Su} {σ : L2.St} {B : Bd} {E : Ends} {Q : It → Hp → Prop} {r : R (List D)} {f : List D → MS → R Fl} (h : PostS T B E (r.bind f))
    (k : ∀ ds S1 J H1 B1, Rl T.toZu S1 σ H1 B1 → B.le B1 → ItOk T.toZu J ds B1 → PostS T B1 E (f ds S1) → Q J H1) : PostI T σ B Q r := by
  cases r with
  | ok ds S => exact fun J H' B' x l o => k ds S J H' B' x l o (PostS.le (r := f ds S) h l)
  | ex c fs S => exact fun C d H' B' e z x l => h C d σ H' B' e z x l
  | st => exact h
theorem y_for {X : Cx} {T : Su} {tg iter : Expr} {body : List Stmt} {its : Exps} {g : Tgt} {b : Stm} {pos : Pos} (hp : PassesOwn (model X.prog X.w) X.A X.env X.xe) (hc : X.calm = true) (hi : PI X tg iter (TIm T its)) (hg : PG X tg (TGm T g)) (hb : PSs X body (TSm T b))
    (hs : ∀ x, foldedSetIterable iter X.env x = pure x := by intro _; rfl) : PS X (.For tg iter body [] pos) (TSm T (sFor its g b)) := psI (ps_for hp hc hi hg hb hs) fun D σ H ⟨S, B, rl, h⟩ => by
  refine ⟨S, B, rl, PostS.toI h fun ds S1 J H1 B1 r1 l1 o h1 => ?_⟩
  refine ⟨fun i m σ' H' => m = ds.length - i ∧ i ≤ ds.length ∧ ∃ S' B', Rl T.toZu S' σ' H' B' ∧ B1.le B' ∧ PostS T B' D (forL g b (ds.drop i) S'), ⟨ds.length, rfl, Nat.zero_le _, S1, B1, r1, .rfl', h1⟩, ?_⟩
  rintro i m σ' H' ⟨rfl, hi, S', B', r', l', h'⟩
  by_cases hlt : i < ds.length
  · right
    rw [List.drop_eq_getElem_cons hlt] at h'
    obtain ⟨go, yl⟩ := o.go i S' σ' H' B' ds[i] r' l'.lg (List.getElem?_eq_getElem hlt)
    refine ⟨go, fun σ3 H3 => ∃ S3 B3, Rl T.toZu S3 σ3 H3 B3 ∧ B1.le B3 ∧ PostS T B3 D (forL g b (ds.drop (i + 1)) S3), fun σ3 H3 n => ⟨ds.length - (i + 1), by omega, rfl, hlt, n⟩, fun x H2 hy => ?_⟩
    obtain ⟨B2, r2, l2, q2⟩ := yl x H2 hy
    refine ⟨S', B2, ds[i], r2, q2, ?_⟩
    unfold forL at h'
    cases eg : g ds[i] S' with
    | none => rw [eg] at h'; exact h'.elim
    | some S3 =>
      rw [eg] at h'
      refine fun σ3 H3 B3 r3 l3 => ⟨S3, B3, r3, ?_⟩
      have lB : B'.le B3 := l2.trans l3
      have h3 := PostS.le h' lB
      dsimp only at h3
      cases eb : b S3 with
      | st => rw [eb] at h3; exact h3.elim
      | ex c fs S4 => rw [eb] at h3; exact h3
      | ok f S4 =>
        rw [eb] at h3
        cases f with
        | nx => exact fun σ4 H4 B4 r4 l4 => ⟨S4, B4, r4, (l'.trans lB).trans l4, PostS.le h3 l4⟩
        | ct => exact fun σ4 H4 B4 r4 l4 => ⟨S4, B4, r4, (l'.trans lB).trans l4, PostS.le h3 l4⟩
        | bk => exact h3
        | rt d => exact h3
  · left
    have e : i = ds.length := by omega
    subst e
    rw [List.drop_length] at h'
    exact ⟨o.stop _ S' σ' H' B' r' l'.lg (Nat.le_refl _), h' σ' H' B' r' .rfl'⟩

/-! ### while -/
def whL (t : Tst) (body : Stm) : Nat → MS → R Fl
  | 0, _ => .st
  | n + 1, S => (t S).bind fun c S1 => if c = true then match body S1 with
      | .ok .nx S2 => whL t body n S2
      | .ok .ct S2 => whL t body n S2
      | .ok .bk S2 => .ok .nx S2
      | .ok (.rt r) S2 => .ok (.rt r) S2
      | .ex c fs S2 => .ex c fs S2
      | .st => .st
    else .ok .nx S1
def sWhile (n : Nat) (t : Tst) (body : Stm) : Stm := whL t body n
theorem y_while {X : Cx} {T : Su} {c : Expr} {body : List Stmt} {n : Nat} {t : Tst} {b : Stm} {pos : Pos} (hp : PassesOwn (model X.prog X.w) X.A X.env X.xe) (hc : PT X c (TTm T t)) (hb : PSs X body (TSm T b)) : PS X (.While c body [] pos) (TSm T (sWhile n t b)) :=
  psI (ps_while hp hc hb) fun D σ H ⟨S, B, rl, h⟩ => by
    refine ⟨fun m σ' H' => ∃ S' B', Rl T.toZu S' σ' H' B' ∧ B.le B' ∧ PostS T B' D (whL t b m S'), ⟨n, S, B, rl, .rfl', h⟩, ?_⟩
    rintro m σ' H' ⟨S', B', r', l', h'⟩
    cases m with
    | zero => exact h'.elim
    | succ m =>
      refine ⟨S', B', r', PostS.bind (f := fun c S1 => if c = true then _ else .ok .nx S1) h' fun k S1 k' H1 B1 r1 l1 e1 h1 => ?_⟩
      cases e1
      cases k with
      | false => exact h1 σ' H1 B1 r1 .rfl'
      | true =>
        refine ⟨fun σ3 H3 => ∃ S3 B3, Rl T.toZu S3 σ3 H3 B3 ∧ B.le B3 ∧ PostS T B3 D (whL t b m S3), fun σ3 H3 q => ⟨m, Nat.lt_succ_self m, q⟩, S1, B1, r1, ?_⟩
        have h3 : PostS T B1 D (match b S1 with
          | .ok .nx S2 => whL t b m S2
          | .ok .ct S2 => whL t b m S2
          | .ok .bk S2 => .ok .nx S2
          | .ok (.rt r) S2 => .ok (.rt r) S2
          | .ex c fs S2 => .ex c fs S2
          | .st => .st) := h1
        cases eb : b S1 with
        | st => rw [eb] at h3; exact h3.elim
        | ex c fs S4 => rw [eb] at h3; exact h3
        | ok f S4 =>
          rw [eb] at h3
          cases f with
          | nx => exact fun σ4 H4 B4 r4 l4 => ⟨S4, B4, r4, (l'.trans l1).trans l4, PostS.le h3 l4⟩
          | ct => exact fun σ4 H4 B4 r4 l4 => ⟨S4, B4, r4, (l'.trans l1).trans l4, PostS.le h3 l4⟩
          | bk => exact h3
          | rt d => exact h3
end Mir
/-! Mir8: defs and their calls. -/
namespace Mir
open PySem PySem.Spec PyProof.Rows L2

abbrev Z0 : Addr → Value → Option Addr → Prop := fun _ _ _ => False
abbrev Fn := List D → List Cl → R D
/-- what a call promises of its end -/
def PostC (T : Cfg) (B : Bd) (Q : VK) (E : XK) : R D → Prop
  | .ok d S' => ∀ v H' B', Rl ⟨T, Z0⟩ ⟨[], S'.sto⟩ [] H' B' → B.le B' → Rep T B' d v → Q v H'
  | .ex c fs S' => ∀ C dx H' B', T.cls c = some C → XdOk T B' dx fs → Rl ⟨T, Z0⟩ ⟨[], S'.sto⟩ [] H' B' → B.le B' → E (.ref C) dx H'
  | .st => False
/-- a def's promise, by its mirror -/
def spM (T : Cfg) (f : Fn) (n : Nat) : Sp := fun vs H Q E => ∃ ds st B, ds.length = n ∧ RepL T B ds vs ∧ Rl ⟨T, Z0⟩ ⟨[], st⟩ [] H B ∧ PostC T B Q E (f ds st)
/-- a def's mirror, by its body's -/
def fnM (n : Nat) (m : Stm) : Fn := fun ds st => match m ⟨ds.map Sl.va ++ List.replicate (n - ds.length) Sl.un, st⟩ with
  | .ok (.rt d) S => .ok d ⟨[], S.sto⟩
  | .ok .nx S => .ok .non ⟨[], S.sto⟩
  | .ok _ _ => .st
  | .ex c fs S => .ex c fs ⟨[], S.sto⟩
  | .st => .st

section
variable {T : Zu} {S : MS} {σ : L2.St} {H : Hp} {B : Bd}
theorem noOwn {st : List Cl} {i : Nat} {a : Addr} : ¬ Owns ⟨[], st⟩ [] i a := fun ⟨⟨s, e, _⟩, _⟩ => by simp at e
/-- the slots forgotten -/
theorem Rl.bare (r : Rl T S σ H B) : Rl ⟨T.toCfg, Z0⟩ ⟨[], S.sto⟩ [] H B :=
  ⟨rfl, r.g, r.lk, r.f, fun i s e => by simp at e, r.cl, r.ce, fun i a h => absurd h noOwn, r.fc, fun i j a h => absurd h noOwn, r.dc⟩
/-- a body's slots at its entry -/
theorem Rl.entry {T' : Zu} (e : T'.toCfg = T.toCfg) {st : List Cl} (r : Rl T ⟨[], st⟩ [] H B) {ds : List D} {vs : List V} (q : RepL T.toCfg B ds vs) {N : List Str} (hl : ds.length ≤ N.length) :
    Rl T' ⟨ds.map Sl.va ++ List.replicate (N.length - ds.length) Sl.un, st⟩ (L2.start N vs) H B := by
  have lv := q.length
  have no : ∀ {i a}, ¬ Owns ⟨ds.map Sl.va ++ List.replicate (N.length - ds.length) Sl.un, st⟩ (L2.start N vs) i a := fun {i a} ⟨⟨s, e1, l⟩, _⟩ => by
    have e1 : (ds.map Sl.va ++ List.replicate (N.length - ds.length) Sl.un)[i]? = some s := e1
    have : s ∈ ds.map Sl.va ++ List.replicate (N.length - ds.length) Sl.un := List.mem_of_getElem? e1
    rcases List.mem_append.mp this with h | h
    · obtain ⟨d, _, rfl⟩ := List.mem_map.mp h; cases l
    · rw [List.eq_of_mem_replicate h] at l; cases l
  refine ⟨?_, r.g, r.lk, r.f, fun i s e1 => ?_, r.cl, fun n c a => by rw [e]; exact r.ce n c a, fun i a h => absurd h no, r.fc, fun i j a h => absurd h no, r.dc⟩
  · show (L2.start N vs).length = (ds.map Sl.va ++ List.replicate (N.length - ds.length) Sl.un).length
    unfold L2.start
    simp only [List.length_append, List.length_map, List.length_replicate]
    omega
  · have e1 : (ds.map Sl.va ++ List.replicate (N.length - ds.length) Sl.un)[i]? = some s := e1
    by_cases hi : i < ds.length
    · rw [List.getElem?_append_left (by simpa using hi), List.getElem?_map] at e1
      obtain ⟨d, ed, rfl⟩ := Option.map_eq_some_iff.mp e1
      obtain ⟨v, ev, rv⟩ := q.get ed
      refine ⟨v, ?_, by rw [e]; exact rv⟩
      unfold L2.start
      rw [List.getElem?_append_left (by rw [List.length_map]; omega), List.getElem?_map, ev]
      rfl
    · rw [List.getElem?_append_right (by simpa using hi)] at e1
      have : s ∈ List.replicate (N.length - ds.length) Sl.un := List.mem_of_getElem? e1
      rw [List.eq_of_mem_replicate this]
      trivial
/-- all but the frozen part and the cells belongs to others -/
def Bd.out (B : Bd) (H : Hp) : Bd := { B with F := fun a => match B.G a with
  | none => if a ∈ B.ρ then B.F a else H a
  | some _ => none }
theorem Bd.lg_out : B.lg (B.out H) := ⟨fun _ _ h => h, fun _ _ h => h⟩
theorem Bd.out_some {a : Addr} {o : HO} (h : (B.out H).F a = some o) : B.G a = none ∧ ((a ∈ B.ρ ∧ B.F a = some o) ∨ (a ∉ B.ρ ∧ H a = some o)) := by
  have h : (match B.G a with | none => if a ∈ B.ρ then B.F a else H a | some _ => none) = some o := h
  cases e : B.G a with
  | none =>
    rw [e] at h
    have h : (if a ∈ B.ρ then B.F a else H a) = some o := h
    by_cases c : a ∈ B.ρ
    · rw [if_pos c] at h; exact ⟨rfl, .inl ⟨c, h⟩⟩
    · rw [if_neg c] at h; exact ⟨rfl, .inr ⟨c, h⟩⟩
  | some u => rw [e] at h; cases h
theorem Bd.out_of {a : Addr} {o : HO} (h1 : B.G a = none) (h2 : a ∉ B.ρ) (h : H a = some o) : (B.out H).F a = some o := by
  show (match B.G a with | none => if a ∈ B.ρ then B.F a else H a | some _ => none) = some o
  rw [h1]
  show (if a ∈ B.ρ then B.F a else H a) = some o
  rw [if_neg h2]; exact h
theorem Bd.out_in {a : Addr} (h1 : B.G a = none) (h2 : a ∈ B.ρ) : (B.out H).F a = B.F a := by
  show (match B.G a with | none => if a ∈ B.ρ then B.F a else H a | some _ => none) = B.F a
  rw [h1]
  show (if a ∈ B.ρ then B.F a else H a) = B.F a
  rw [if_pos h2]
theorem Rl.out (r : Rl T S σ H B) : Rl ⟨T.toCfg, Z0⟩ ⟨[], S.sto⟩ [] H (B.out H) :=
  ⟨rfl, r.g, r.lk, fun a o h => ⟨(Bd.out_some h).2.elim (fun q => (r.f a o q.2).1) fun q => q.2, .inl (Bd.out_some h).1⟩, fun i s e => by simp at e, r.cl, fun n c a e1 e2 => (r.ce n c a e1 e2).lg Bd.lg_out, fun i a h => absurd h noOwn,
    fun n c a e1 e2 => ⟨(r.fc n c a e1 e2).1, fun v => by rw [Bd.out_in (r.fc n c a e1 e2).1 (List.mem_of_getElem? e2)]; exact (r.fc n c a e1 e2).2 v⟩, fun i j a h => absurd h noOwn, r.dc⟩
def Bd.back (B' B : Bd) : Bd := { B' with F := B.F }
theorem Bd.lg_back {B' B : Bd} : B'.lg (B'.back B) := ⟨fun _ _ h => h, fun _ _ h => h⟩
theorem Owns.ntup (r : Rl T S σ H B) {i : Nat} {a : Addr} {o : HO} (h : Owns S σ i a) (ho : H a = some o) : tupO o = false := by
  obtain ⟨⟨s, e, lv⟩, q⟩ := h
  have x := r.sl i s e
  rw [q] at x
  cases s with
  | un => cases lv
  | va d => cases lv
  | xc c fs => cases lv
  | ol ds => obtain ⟨a', xs, e', k, _⟩ := x; cases e'; rw [ho] at k; cases k; rfl
  | od t kvs => obtain ⟨a', e', ⟨_, ks, k, _⟩ | ⟨_, ks, k, _⟩⟩ := x <;> (cases e'; rw [ho] at k; cases k; rfl)
  | oi c fs => obtain ⟨a', C, dx, vs, e', _, k, _⟩ := x; cases e'; rw [ho] at k; cases k; rfl
theorem Rl.back (r : Rl T S σ H B) {st : List Cl} {H' : Hp} {B' : Bd} (r' : Rl ⟨T.toCfg, Z0⟩ ⟨[], st⟩ [] H' B') (l : (B.out H).le B') : Rl T ⟨S.env, st⟩ σ H' (B'.back B) ∧ B.le (B'.back B) := by
  have le : B.le (B'.back B) := ⟨l.g, rfl, l.l, l.r, fun a h => (l.n a h).elim .inl fun q => by
    by_cases c : a ∈ B.ρ
    · exact .inl c
    · right
      cases e : B.F a with
      | none => rfl
      | some o =>
        cases eg : B.G a with
        | none => rw [Bd.out_of eg c (r.f a o e).1] at q; cases q
        | some u =>
          have h : a ∈ B'.ρ := h
          have := l.g a u eg
          rw [r'.cellG h] at this; cases this⟩
  have F' : ∀ {a o}, B.G a = none → a ∉ B.ρ → H a = some o → B'.F a = some o := fun h1 h2 h => by rw [l.f]; exact Bd.out_of h1 h2 h
  have inF : ∀ {a o}, B.F a = some o → B.G a = none → B'.F a = some o := fun {a o} h e => by
    by_cases c : a ∈ B.ρ
    · rw [l.f, Bd.out_in e c]; exact h
    · exact F' e c (r.f a o h).1
  have own : ∀ {i a}, Owns S σ i a → ∃ o, H a = some o ∧ H' a = some o ∧ B'.G a = none ∧ B'.F a = some o ∧ a ∉ B'.ρ := fun {i a} h => by
    obtain ⟨h1, h2, h3⟩ := r.fs i a h
    obtain ⟨o, ho⟩ := Owns.lv r h
    have hF := F' h1 h3 ho
    obtain ⟨k1, k2⟩ := r'.f a o hF
    refine ⟨o, ho, k1, ?_, hF, fun z => ?_⟩
    · rcases k2 with k2 | k2
      · exact k2
      · rw [Owns.ntup r h ho] at k2; cases k2
    · rcases l.n a z with q | q
      · exact h3 q
      · rw [← l.f] at q; rw [q] at hF; cases hF
  refine ⟨⟨r.ln, r'.g, r'.lk, fun a o h => ?_, fun i s e => ?_, r'.cl, fun n c a e1 e2 => (r'.ce n c a e1 e2).lg Bd.lg_back, fun i a h => ?_, fun n c a e1 e2 => ?_, r.ds, r'.dc⟩, le⟩
  · have h : B.F a = some o := h
    obtain ⟨h1, h2⟩ := r.f a o h
    cases e : B.G a with
    | none => exact r'.f a o (inF h e)
    | some u =>
      rcases h2 with h2 | h2
      · rw [h2] at e; cases e
      · have eu : u = o := by
          rcases r.g a u e with ⟨_, q⟩ | ⟨_, _, ob, q⟩
          · rw [h1] at q; cases q; rfl
          · rw [h1] at q; cases q; cases h2
        subst eu
        have e' := l.g a u e
        refine ⟨(r'.g a u e').ex ?_, .inr h2⟩
        cases u <;> first | rfl | cases h2
  · refine ((r.sl i s e).lg le.lg).heap fun a u lv eo hu => ?_
    obtain ⟨o, ho, k1, _⟩ := own (i := i) (a := a) ⟨⟨s, e, lv⟩, eo⟩
    rw [hu] at ho; cases ho
    exact k1
  · obtain ⟨h1, h2, h3⟩ := r.fs i a h
    obtain ⟨o, _, _, k2, _, k3⟩ := own h
    exact ⟨k2, h2, k3⟩
  · obtain ⟨k1, k2⟩ := r'.fc n c a e1 e2
    refine ⟨k1, fun v => ?_⟩
    show B.F a = none
    cases e : B.F a with
    | none => rfl
    | some o =>
      cases eg : B.G a with
      | none => have := inF e eg; rw [k2 v] at this; cases this
      | some u => have := l.g a u eg; rw [k1] at this; cases this
end

/-! ### what a def promises where no repr is under way -/
structure FnG (P : Program) (w : World) (K : PySem.W.Frag) (mg : Str → Option Value) (base : Heap) (k : Nat) (f : Addr) (fd : FuncData) (ps : List Str) (sp : Sp) : Prop where
  len : ∀ vs H Q E, sp vs H Q E → vs.length = ps.length
  run : ∀ (A : Around) (outer : List Env) (s : Shared) (H : Hp) (args : Args) (us : List Value) (vs : List V) (Q : VK) (E : XK), Room k A → A.guards = some [] → Env0 P w K mg base A outer s H → BindsTo s fd args (ps.zip us) → Vals vs us → sp vs H Q E →
    codeAny (model P w) A (.call (.ref f) args) (CR (L2.CX P w) outer P w H s Q E) s
theorem FnG.mono {P : Program} {w : World} {K : PySem.W.Frag} {mg : Str → Option Value} {base : Heap} {j k : Nat} {f : Addr} {fd : FuncData} {ps : List Str} {sp : Sp} (F : FnG P w K mg base j f fd ps sp) (h : j ≤ k) : FnG P w K mg base k f fd ps sp :=
  ⟨F.len, fun A outer s H args us vs Q E hr => F.run A outer s H args us vs Q E (hr.mono h)⟩
section
variable {X : Cx} {k : Nat} {f : Addr} {fd : FuncData} {ps : List Str} {sp : Sp} {E : L2.St → XK}
theorem run_fnG {pins : List (Addr × Obj)} {σ : L2.St} {H : Hp} {s : Shared} {Q : VK} {us : List Value} {vs : List V} (F : FnG X.prog X.w X.K X.mg X.base k f fd ps sp) (hr : Room k X.A) (hgd : X.A.guards = some []) (hb : Binds X.K fd ps []) (hx : PassesAt (L2.CX X.prog X.w) X σ (E σ))
    (I : Inv X pins σ H s) (r : Vals vs us) (h : sp vs H Q (E σ)) : wpAny (model X.prog X.w) X.A (PySem.call (.ref f) us) (EP X pins σ Q) X.xe s := by
  have hl : us.length = ps.length := by rw [← r.length]; exact F.len _ _ _ _ h
  have b := hb s us I.kIn (by rw [List.append_nil]; exact hl)
  rw [List.append_nil] at b
  refine wpAny_call (codeAny_mono (F.run X.A X.stack s H ⟨us, []⟩ us vs Q (E σ) hr hgd I.env0 b r h) fun r s' hq => ?_)
  rcases r with e | fl
  · exact hx pins H s e s' I hq
  · cases fl <;> first | exact I.after hq | exact False.elim hq
theorem pe_callG {x : Str} {p pos : Pos} {e : Expr} {es : List Expr} {t : TA} (F : FnG X.prog X.w X.K X.mg X.base k f fd ps sp) (hr : Room k X.A) (hgd : X.A.guards = some []) (hg : Gl X x) (hm : X.mg x = some (.ref f)) (hk : PySem.W.keepIn X.K (.ref f) = true) (hb : Binds X.K fd ps [])
    (hx : ∀ σ, PassesAt (L2.CX X.prog X.w) X σ (E σ)) (ha : PA X (e :: es) t) (hdb : (x == ("__debug__" : Str)) = false := by decide) (he : starEach (e :: es) X.env = (false, eval e X.env) :: starEach es X.env := by rfl) (hpl : (backTo pos (starEach es X.env)).any (·.1) = false := by rfl) :
    PE X (.Call (.Name x p) (e :: es) [] pos) (tCallS sp E t) := ⟨fun pins s σ H Q I h =>
  wpAny_Call_Name_kw (ld_glob I hg hm (PySem.W.callWith_K (h₀ := X.base) I.ok.mod.kin hk (thn (ha.run pos pins s σ H _ I h) fun us s1 ⟨vs, H1, I1, r, q⟩ => ⟨I1.kIn, run_fnG F hr hgd hb (hx σ) I1 r q⟩) he hpl) hdb)⟩
end
section
variable {P : Program} {w : World} {K : PySem.W.Frag} {mg : Str → Option Value} {base : Heap}
/-- a def of the text, by its body -/
theorem fn_ofG {x qual : Str} {st : Stmt} {f : Addr} {fd : FuncData} {N ps : List Str} {k : Nat} {sp : Sp} (F : Fun K x qual st f fd) (S : FnScope N ps (defScope st)) (len : ∀ vs H Q E, sp vs H Q E → vs.length = ps.length)
    (hbody : ∀ (cdv : Value) (A : Around) (outer : List Env) (s : Shared) (H : Hp) (vs : List V) (Q : VK) (E : XK), Room k (A.deeper (envOfC qual (defScope st) s.heap.objs.size f cdv)) → A.guards = some [] → sp vs H Q E →
      ∃ t, PSs (cxOf (L2.CX P w) P w K mg base N qual (defScope st) f cdv A outer s H E) (defBody st) t ∧ t { nx := fun _ H' => Q .non H', rt := Q } (L2.start N vs) H) : FnG P w K mg base (k + 1) f fd ps sp := by
  obtain ⟨oc, od, kV, doc, pm, an, cdv, ct, osl, rfl, lk, hcd⟩ := F.ex
  refine ⟨len, fun A outer s H args us vs Q E hr hgd e0 hb r hsp => ?_⟩
  obtain ⟨t, ht, hq⟩ := hbody cdv A outer s H vs Q E (hr.deeper _) hgd hsp
  have KX : K.In s.heap := e0.mod.kin.keeps fun b o e => (e0.bs b o e).1
  have lim : s.heap.NoLimit := e0.mod.nolimit.keeps fun b o e => (e0.bs b o e).1
  have hl := len _ _ _ _ hsp
  refine codeAny_call_function hr.depth (KX _ _ lk) rfl S.co S.gen rfl (PySem.W.codeRec_of KX hcd) (hb _ _ _ _ (wpAny_newFunctionEnv_cells S.kind (fun y hy => (S.par y.1 (List.of_mem_zip hy).1).imp id fun q => ⟨q, PySem.W.cellsFrom_some _ _ _ (.inl q)⟩) fun env he s1 x => ?_))
  subst he
  have I : Inv (cxOf (L2.CX P w) P w K mg base N qual (defScope st) f cdv A outer s H E) [] (L2.start N vs) H s1 := inv_start S hr.hd e0 hl r x
  refine ⟨lim.keeps x.toInCall.keep, codeAny_func (wpAny_mono (ht.run [] s1 (L2.start N vs) H _ I hq) (fun fl s' hs => ?_) fun _ _ hs => hs)⟩
  cases fl
  · obtain ⟨σ', H', J, q⟩ := hs
    exact ⟨.non, H', J.os, J.bare, J.base, J.hok, rfl, q⟩
  · exact hs.choose_spec.choose_spec.2.elim
  · exact hs.choose_spec.choose_spec.2.elim
  · obtain ⟨v, σ', H', J, rv, q⟩ := hs
    exact ⟨v, H', J.os, J.bare, J.base, J.hok, rv, q⟩
end

/-! ### the call -/
def callM (f : Fn) (ds : List D) (S : MS) : R D := match f ds S.sto with
  | .ok d S' => .ok d ⟨S.env, S'.sto⟩
  | .ex c fs S' => .ex c fs ⟨S.env, S'.sto⟩
  | .st => .st
def eCall (n : Nat) (f : Fn) (as : Exps) : Exp := fun S => (as S).bind fun ds S1 => if ds.length = n then callM f ds S1 else .st
theorem XdOk.lg {T : Cfg} {B B' : Bd} (h : B.lg B') {d : Option Addr} {fs : List (Str × D)} (x : XdOk T B d fs) : XdOk T B' d fs := x.elim .inl fun ⟨dx, vs, e, g, r⟩ => .inr ⟨dx, vs, e, h.g _ _ g, r.lg h⟩
theorem call_of {T : Su} {S : MS} {σ : L2.St} {H : Hp} {B : Bd} {f : Fn} {n : Nat} {ds : List D} {vs : List V} {Q : VK} (rl : Rl T.toZu S σ H B) (q : RepL T.toCfg B ds vs) (h : PostR T σ B (RelD T) Q (if ds.length = n then callM f ds S else .st)) :
    spM T.toCfg f n vs H Q (WE T.W σ) := by
  by_cases c : ds.length = n
  · rw [if_pos c] at h
    refine ⟨ds, S.sto, B.out H, c, q.lg Bd.lg_out, rl.out, ?_⟩
    unfold callM at h
    cases e : f ds S.sto with
    | st => rw [e] at h; exact h.elim
    | ok d S' =>
      rw [e] at h
      intro v H' B' r' l' rv
      obtain ⟨r2, l2⟩ := rl.back r' l'
      exact h v H' _ r2 l2 (rv.lg Bd.lg_back)
    | ex c fs S' =>
      rw [e] at h
      intro C dx H' B' ec xd r' l'
      obtain ⟨r2, l2⟩ := rl.back r' l'
      exact h C dx H' _ ec (xd.lg Bd.lg_back) r2 l2
  · rw [if_neg c] at h; exact h.elim
section
variable {X : Cx} {T : Su} {k : Nat} {f : Addr} {fd : FuncData} {ps : List Str} {m : Fn} {x : Str} {p pos : Pos} {e : Expr} {es : List Expr} {ees : Exps}
theorem r_call {n : Nat} (F : FnG X.prog X.w X.K X.mg X.base k f fd ps (spM T.toCfg m n)) (hr : Room k X.A) (hgd : X.A.guards = some []) (hg : Gl X x) (hm : X.mg x = some (.ref f)) (hk : PySem.W.keepIn X.K (.ref f) = true) (hb : Binds X.K fd ps []) (tk : Takes X T.W)
    (ha : PA X (e :: es) (TAm T ees)) (hdb : (x == ("__debug__" : Str)) = false := by decide) (he : starEach (e :: es) X.env = (false, eval e X.env) :: starEach es X.env := by rfl) (hpl : (backTo pos (starEach es X.env)).any (·.1) = false := by rfl) :
    PE X (.Call (.Name x p) (e :: es) [] pos) (TEm T (eCall n m ees)) := peI (pe_callG F hr hgd hg hm hk hb (fun σ => passAt tk σ) ha hdb he hpl) fun σ H Q ⟨S, B, rl, h⟩ =>
  ⟨S, B, rl, PostR.bind h fun ds S1 vs H1 B1 r1 l1 q1 h1 => call_of r1 q1 h1⟩
end

/-! ### the def -/
section
variable {P : Program} {w : World} {K : PySem.W.Frag} {mg : Str → Option Value} {base : Heap}
theorem def_of {T : Cfg} {x qual : Str} {st : Stmt} {f : Addr} {fd : FuncData} {N ps : List Str} {k : Nat} {m : Stm} (F : Fun K x qual st f fd) (S : FnScope N ps (defScope st))
    (hbody : ∀ (cdv : Value) (A : Around) (outer : List Env) (s : Shared) (H : Hp) (E : XK), Room k (A.deeper (envOfC qual (defScope st) s.heap.objs.size f cdv)) → A.guards = some [] →
      PSs (cxOf (L2.CX P w) P w K mg base N qual (defScope st) f cdv A outer s H E) (defBody st) (TSm ⟨⟨T, Z0⟩, fun c d _ H => E c d H⟩ m)) : FnG P w K mg base (k + 1) f fd ps (spM T (fnM N.length m) ps.length) := by
  have hpl : ps.length ≤ N.length := by have := congrArg List.length S.pre; rw [List.length_take] at this; omega
  refine fn_ofG F S (fun vs H Q E ⟨ds, st, B, hl, q, _⟩ => by rw [← q.length]; exact hl) fun cdv A outer s H vs Q E hr hgd ⟨ds, st, B, hl, q, rl, h⟩ => ⟨_, hbody cdv A outer s H E hr hgd, ?_⟩
  refine ⟨_, B, Rl.entry (T' := ⟨T, Z0⟩) rfl rl q (N := N) (by omega), ?_⟩
  unfold fnM at h
  cases e : m ⟨ds.map Sl.va ++ List.replicate (N.length - ds.length) Sl.un, st⟩ with
  | st => rw [e] at h; exact h.elim
  | ex c fs S' =>
    rw [e] at h
    exact fun C d σ' H' B' e1 z r l => h C d H' B' e1 z r.bare l
  | ok fl S' =>
    rw [e] at h
    cases fl with
    | nx => exact fun σ' H' B' r l => h .non H' B' r.bare l .non
    | bk => exact h.elim
    | ct => exact h.elim
    | rt d => exact fun v σ' H' B' r l rv => h v H' B' r.bare l rv
end
end Mir
/-! Mir9: list comprehensions. -/
namespace Mir
open PySem PySem.Spec PyProof.Rows L2

/-! ### targets of a block's own names -/
def PostW (T : Su) (B : Bd) (vs : List Nat) (σ0 : L2.St) (Q : L2.St → Hp → Prop) : Option MS → Prop
  | some S' => ∀ σ' H' B', Rl T.toZu S' σ' H' B' → B.le B' → wipe σ' vs = wipe σ0 vs → Q σ' H'
  | none => False
theorem PostW.le {T : Su} {B B1 : Bd} {vs : List Nat} {σ0 : L2.St} {Q : L2.St → Hp → Prop} {o : Option MS} (h : PostW T B vs σ0 Q o) (l : B.le B1) : PostW T B1 vs σ0 Q o := by
  cases o with
  | some S => exact fun σ' H' B' x l' => h σ' H' B' x (l.trans l')
  | none => exact h
def TWm (T : Su) (vs : List Nat) (g : Tgt) : TG := fun v σ H Q => ∃ S B d, Rl T.toZu S σ H B ∧ Rep T.toCfg B d v ∧ PostW T B vs σ Q (g d S)
def TWsm (T : Su) (vs : List Nat) (g : Tgts) : TGs := fun xs σ H Q => ∃ S B ds, Rl T.toZu S σ H B ∧ RepL T.toCfg B ds xs ∧ PostW T B vs σ Q (g ds S)
theorem wipe_set {σ : L2.St} {i : Nat} {x : Option V} : ∀ {vs : List Nat}, i ∈ vs → wipe (σ.set i x) vs = wipe σ vs
  | [], h => by cases h
  | v :: vs, h => by
    show (wipe (σ.set i x) vs).set v none = (wipe σ vs).set v none
    by_cases hv : i ∈ vs
    · rw [wipe_set hv]
    · have e : i = v := (List.mem_cons.mp h).resolve_right hv
      subst e
      have aux : ∀ {l : List Nat} {τ : L2.St}, i ∉ l → wipe (τ.set i x) l = (wipe τ l).set i x := by
        intro l
        induction l with
        | nil => intro τ _; rfl
        | cons b l ih =>
          intro τ hl
          simp only [List.mem_cons, not_or] at hl
          show (wipe (τ.set i x) l).set b none = ((wipe τ l).set b none).set i x
          rw [ih hl.2]
          exact List.set_comm _ _ hl.1
      rw [aux hv, List.set_set]
theorem wipe_in {σ : L2.St} {i : Nat} : ∀ {vs : List Nat}, i ∈ vs → (wipe σ vs)[i]? = if i < σ.length then some none else none
  | [], h => by cases h
  | v :: vs, h => by
    unfold wipe
    by_cases hv : v = i
    · subst hv
      by_cases c : v < σ.length
      · rw [List.getElem?_set_self (by rw [wipe_length]; exact c), if_pos c]
      · rw [List.getElem?_eq_none (by rw [List.length_set, wipe_length]; omega), if_neg c]
    · rw [List.getElem?_set_ne hv]
      exact wipe_in ((List.mem_cons.mp h).resolve_left fun z => hv z.symm)
theorem wipe_wipe {σ : L2.St} {vs : List Nat} : wipe (wipe σ vs) vs = wipe σ vs := by
  refine List.ext_getElem? fun i => ?_
  by_cases h : i ∈ vs
  · rw [wipe_in h, wipe_in h, wipe_length]
  · rw [wipe_out h]
section
variable {X : Cx} {T : Su} {pos : Pos} {g : Tgt} {gs : Tgts} {vs : List Nat}
theorem tw_name {i : Nat} {x : Str} (hv : i ∈ vs) (hN : X.N.Nodup) (hi : X.N[i]? = some x) (hx : Loc X.env.scope x) (hf : X.fn x = true ∨ X.env.scope.names.lookup x = some .local) : PG X (.Name x pos) (TWm T vs (gNm i)) :=
  pgI (pg_name hN hi hx hf) fun v σ H Q ⟨S, B, d, rl, q, h⟩ => by
    unfold gNm at h
    by_cases c : i < S.env.length
    · rw [if_pos c] at h
      exact h _ H B (rl.set c q) .rfl' (wipe_set hv)
    · rw [if_neg c] at h; exact h.elim
theorem tws_nil : PGs X [] (TWsm T vs gsNil) := pgsI pgs_nil fun xs σ H Q ⟨S, B, ds, rl, q, h⟩ => by
  cases q with
  | nil => exact ⟨rfl, h σ H B rl .rfl' rfl⟩
  | cons _ _ => exact h.elim
theorem tws_cons {e : Expr} {es : List Expr} (h1 : PG X e (TWm T vs g)) (h2 : PGs X es (TWsm T vs gs)) (hs : (assignEach (e :: es) X.env).map (·.2) = assign e X.env :: (assignEach es X.env).map (·.2) := by rfl) : PGs X (e :: es) (TWsm T vs (gsCons g gs)) :=
  pgsI (pgs_cons h1 h2 hs) fun xs σ H Q ⟨S, B, ds, rl, q, h⟩ => by
    cases q with
    | nil => exact h.elim
    | @cons d ds v xs q1 q2 =>
      refine ⟨v, xs, rfl, S, B, d, rl, q1, ?_⟩
      have h' : PostW T B vs σ Q ((g d S).bind fun S1 => gs ds S1) := h
      cases e1 : g d S with
      | some S1 =>
        rw [e1] at h'
        refine fun σ1 H1 B1 r1 l1 w1 => ⟨S1, B1, ds, r1, q2.le l1, ?_⟩
        have h2 := PostW.le (o := gs ds S1) h' l1
        cases e2 : gs ds S1 with
        | none => rw [e2] at h2; exact h2
        | some S2 => rw [e2] at h2; exact fun σ2 H2 B2 r2 l2 w2 => h2 σ2 H2 B2 r2 l2 (w2.trans w1)
      | none => rw [e1] at h'; exact h'.elim
theorem tw_tup {es : List Expr} {k n : Nat} (hK : T.K = X.K) (hc : X.calm = true) (h : PGs X es (TWsm T vs gs)) (hn : (assignEach es X.env).length = n := by rfl) (hst : (assignEach es X.env).findIdx? (·.1) = none := by rfl) : PG X (.Tuple es k pos) (TWm T vs (gTp n gs)) :=
  pgI (pg_tup hc h hn hst) fun v σ H Q ⟨S, B, d, rl, q, h⟩ => by
    cases q with
    | @tup ds a xs ha ra =>
      have h' : PostW T B vs σ Q (if ds.length = n then gs ds S else none) := h
      by_cases c : ds.length = n
      · rw [if_pos c] at h'
        exact ⟨a, xs, rfl, rl.sqT ha, by rw [← ra.length]; exact c, S, B, ds, rl, ra, h'⟩
      · rw [if_neg c] at h'; exact h'.elim
    | _ => exact h.elim
end

/-! ### tests -/
def tYesM : Tst := fun S => .ok true S
section
variable {X : Cx} {T : Su}
theorem ptsI {ifs : List Expr} {t t' : TT} (h : PTs X ifs t) (k : ∀ σ H Q, t' σ H Q → t σ H Q) : PTs X ifs t' := ⟨fun pins s σ H Q I q => h.run pins s σ H Q I (k σ H Q q)⟩
theorem w_nil : PTs X [] (TTm T tYesM) := ptsI pts_nil fun σ H Q ⟨S, B, rl, h⟩ => h true H B rl .rfl' rfl
theorem w_one {c : Expr} {t : Tst} (h : PT X c (TTm T t)) : PTs X [c] (TTm T t) := pts_one h
end

/-! ### slots wiped and given back -/
def wipeL (l : List Sl) : List Nat → List Sl
  | [] => l
  | v :: vs => (wipeL l vs).set v .un
def MS.wipe (S : MS) (vs : List Nat) : MS := ⟨wipeL S.env vs, S.sto⟩
def backL (l0 l : List Sl) : List Nat → List Sl
  | [] => l
  | v :: vs => (backL l0 l vs).set v ((l0[v]?).getD .un)
def MS.back (S S0 : MS) (vs : List Nat) : MS := ⟨backL S0.env S.env vs, S.sto⟩
theorem wipeL_length {l : List Sl} : ∀ {vs : List Nat}, (wipeL l vs).length = l.length
  | [] => rfl
  | v :: vs => by unfold wipeL; rw [List.length_set, wipeL_length]
theorem backL_length {l0 l : List Sl} : ∀ {vs : List Nat}, (backL l0 l vs).length = l.length
  | [] => rfl
  | v :: vs => by unfold backL; rw [List.length_set, backL_length]
theorem wipeL_out {l : List Sl} {i : Nat} : ∀ {vs : List Nat}, i ∉ vs → (wipeL l vs)[i]? = l[i]?
  | [], _ => rfl
  | v :: vs, h => by
    simp only [List.mem_cons, not_or] at h
    unfold wipeL
    rw [List.getElem?_set_ne (fun e => h.1 e.symm)]
    exact wipeL_out h.2
theorem wipeL_in {l : List Sl} {i : Nat} {s : Sl} : ∀ {vs : List Nat}, i ∈ vs → (wipeL l vs)[i]? = some s → s = .un
  | [], h, _ => by cases h
  | v :: vs, h, e => by
    unfold wipeL at e
    by_cases hv : v = i
    · subst hv
      by_cases hl : v < (wipeL l vs).length
      · rw [List.getElem?_set_self hl] at e; cases e; rfl
      · rw [List.getElem?_eq_none (by simpa using hl)] at e; cases e
    · rw [List.getElem?_set_ne hv] at e
      exact wipeL_in ((List.mem_cons.mp h).resolve_left fun z => hv z.symm) e
theorem backL_out {l0 l : List Sl} {i : Nat} : ∀ {vs : List Nat}, i ∉ vs → (backL l0 l vs)[i]? = l[i]?
  | [], _ => rfl
  | v :: vs, h => by
    simp only [List.mem_cons, not_or] at h
    unfold backL
    rw [List.getElem?_set_ne (fun e => h.1 e.symm)]
    exact backL_out h.2
theorem backL_in {l0 l : List Sl} {i : Nat} {s : Sl} : ∀ {vs : List Nat}, i ∈ vs → (backL l0 l vs)[i]? = some s → s = (l0[i]?).getD .un
  | [], h, _ => by cases h
  | v :: vs, h, e => by
    unfold backL at e
    by_cases hv : v = i
    · subst hv
      by_cases hl : v < (backL l0 l vs).length
      · rw [List.getElem?_set_self hl] at e; cases e; rfl
      · rw [List.getElem?_eq_none (by simpa using hl)] at e; cases e
    · rw [List.getElem?_set_ne hv] at e
      exact backL_in ((List.mem_cons.mp h).resolve_left fun z => hv z.symm) e
section
variable {T : Zu} {S S0 : MS} {σ : L2.St} {H H0 : Hp} {B B0 : Bd} {vs : List Nat}
theorem Rl.wipe (r : Rl T S σ H B) : Rl T (S.wipe vs) (L2.wipe σ vs) H B := by
  have ow : ∀ {i a}, Owns (S.wipe vs) (L2.wipe σ vs) i a → Owns S σ i a := fun {i a} ⟨⟨s, e, l⟩, h⟩ => by
    have e : (wipeL S.env vs)[i]? = some s := e
    by_cases hi : i ∈ vs
    · rw [wipeL_in hi e] at l; cases l
    · rw [wipeL_out hi] at e
      exact ⟨⟨s, e, l⟩, (wipe_some h).1⟩
  refine ⟨?_, r.g, r.lk, r.f, fun i s e => ?_, r.cl, r.ce, fun i a h => r.fs i a (ow h), r.fc, fun i j a h1 h2 => r.ds i j a (ow h1) (ow h2), r.dc⟩
  · show (L2.wipe σ vs).length = (wipeL S.env vs).length
    rw [wipe_length, wipeL_length]; exact r.ln
  · have e : (wipeL S.env vs)[i]? = some s := e
    by_cases hi : i ∈ vs
    · rw [wipeL_in hi e]; trivial
    · rw [wipeL_out hi] at e
      rw [wipe_out hi]
      exact r.sl i s e
def Sl.dead : Sl → Bool
  | .un => true
  | .va _ => true
  | .xc _ _ => true
  | _ => false
theorem SlOk.dead {s : Sl} {o : Option (Option V)} (h : s.dead = true) (x : SlOk T B H s o) : SlOk T B H0 s o := x.heap fun a u lv _ _ => by cases s <;> first | (cases lv; done) | (cases h; done)
theorem Rl.backS (r0 : Rl T S0 σ H0 B0) (r : Rl T S (L2.wipe σ vs) H B) (l : B0.lg B) (hd : ∀ i ∈ vs, ((S0.env[i]?).getD .un).dead = true) : Rl T (S.back S0 vs) σ H B := by
  have dl : ∀ {s : Sl}, s.dead = true → s.live = false := fun {s} h => by cases s <;> first | rfl | cases h
  have ow : ∀ {i a}, Owns (S.back S0 vs) σ i a → Owns S (L2.wipe σ vs) i a := fun {i a} ⟨⟨s, e, lv⟩, h⟩ => by
    have e : (backL S0.env S.env vs)[i]? = some s := e
    by_cases hi : i ∈ vs
    · have q := hd i hi
      rw [← backL_in hi e] at q
      rw [dl q] at lv; cases lv
    · rw [backL_out hi] at e
      exact ⟨⟨s, e, lv⟩, by rw [wipe_out hi]; exact h⟩
  refine ⟨?_, r.g, r.lk, r.f, fun i s e => ?_, r.cl, r.ce, fun i a h => r.fs i a (ow h), r.fc, fun i j a h1 h2 => r.ds i j a (ow h1) (ow h2), r.dc⟩
  · show σ.length = (backL S0.env S.env vs).length
    rw [backL_length, ← r.ln, wipe_length]
  · have e : (backL S0.env S.env vs)[i]? = some s := e
    by_cases hi : i ∈ vs
    · have q := hd i hi
      have es := backL_in hi e
      rw [← es] at q
      cases e0 : S0.env[i]? with
      | none => rw [e0] at es; subst es; trivial
      | some s0 =>
        rw [e0] at es
        have es : s = s0 := es
        subst es
        exact (((r0.sl i s e0).lg l)).dead q
    · rw [backL_out hi] at e
      have x := r.sl i s e
      rw [wipe_out hi] at x
      exact x

/-! ### the list that grows belongs to others while it grows -/
def Bd.fd (B : Bd) (p : Addr) (o : HO) : Bd := { B with F := upd B.F p o }
theorem Bd.lg_fd {B : Bd} {p : Addr} {o : HO} : B.lg (B.fd p o) := ⟨fun _ _ h => h, fun _ _ h => h⟩
theorem Bd.fd_lg {B : Bd} {p : Addr} {o : HO} : (B.fd p o).lg B := ⟨fun _ _ h => h, fun _ _ h => h⟩
theorem fd_le {B B4 : Bd} {p : Addr} {o : HO} (l : (B.fd p o).le B4) : ∃ B', B4 = B'.fd p o ∧ B.le B' ∧ (p ∉ B.ρ → p ∉ B'.ρ) := by
  obtain ⟨G, F, ρ, L⟩ := B4
  have e : F = upd B.F p o := l.f
  subst e
  exact ⟨⟨G, B.F, ρ, L⟩, rfl, ⟨l.g, rfl, l.l, l.r, fun a h => (l.n a h).elim .inl fun q => .inr (by
    have q : upd B.F p o a = none := q
    by_cases z : a = p
    · subst z; rw [upd_same] at q; cases q
    · rw [upd_ne z] at q; exact q)⟩, fun h z => (l.n p z).elim h fun q => by
    have q : upd B.F p o p = none := q
    rw [upd_same] at q; cases q⟩
theorem fd_fd {B : Bd} {p : Addr} {o o' : HO} : (B.fd p o).fd p o' = B.fd p o' := by
  show ({ B with F := upd (upd B.F p o) p o' } : Bd) = { B with F := upd B.F p o' }
  have e : upd (upd B.F p o) p o' = upd B.F p o' := by
    funext b
    by_cases h : b = p
    · subst h; rw [upd_same, upd_same]
    · rw [upd_ne h, upd_ne h, upd_ne h]
  rw [e]
/-- it is laid -/
theorem Rl.laidF (r : Rl T S σ H B) {p : Addr} (hp : H p = none) (o : HO) : Rl T S σ (upd H p o) (B.fd p o) := by
  have ne : ∀ {a u}, H a = some u → a ≠ p := fun e z => by rw [z, hp] at e; cases e
  have up : ∀ {a u}, H a = some u → upd H p o a = some u := fun e => by rw [upd_ne (ne e)]; exact e
  refine ⟨r.ln, fun a u e => (r.g a u e).mono fun _ => up, r.lk, fun a u e => ?_, fun i s e => ((r.sl i s e).lg Bd.lg_fd).heap fun a u _ _ k => up k, r.cl, fun n c a e1 e2 => ((r.ce n c a e1 e2).lg Bd.lg_fd).heap fun u k => up k, fun i a h => ?_, fun n c a e1 e2 => ?_, r.ds, r.dc⟩
  · have e : upd B.F p o a = some u := e
    by_cases z : a = p
    · subst z
      rw [upd_same] at e; cases e
      exact ⟨upd_same, .inl (r.gnone hp)⟩
    · rw [upd_ne z] at e
      exact ⟨up (r.f a u e).1, (r.f a u e).2⟩
  · obtain ⟨h1, h2, h3⟩ := r.fs i a h
    obtain ⟨u, k⟩ := Owns.lv r h
    exact ⟨h1, by show upd B.F p o a = none; rw [upd_ne (ne k)]; exact h2, h3⟩
  · obtain ⟨h1, h2⟩ := r.fc n c a e1 e2
    obtain ⟨u, k⟩ := r.cellv (List.mem_of_getElem? e2)
    exact ⟨h1, fun v => by show upd B.F p o a = none; rw [upd_ne (ne k)]; exact h2 v⟩
theorem Rl.fdAt {p : Addr} {o : HO} (r : Rl T S σ H (B.fd p o)) : H p = some o := (r.f p o upd_same).1
/-- it changes -/
theorem Rl.mutF {p : Addr} {o : HO} (r : Rl T S σ H (B.fd p o)) (ho : tupO o = false) (hr : p ∉ B.ρ) (o' : HO) : Rl T S σ (upd H p o') (B.fd p o') := by
  have gp : B.G p = none := by
    rcases (r.f p o upd_same).2 with h | h
    · exact h
    · rw [ho] at h; cases h
  have ne : ∀ {i a}, Owns S σ i a → a ≠ p := fun h z => by
    have := (r.fs _ _ h).2.1
    rw [z] at this
    have this : upd B.F p o p = none := this
    rw [upd_same] at this; cases this
  have nc : ∀ {a}, a ∈ B.ρ → a ≠ p := fun h z => by subst z; exact hr h
  have up : ∀ {a u}, a ≠ p → H a = some u → upd H p o' a = some u := fun z e => by rw [upd_ne z]; exact e
  have fe : ∀ {a}, a ≠ p → (B.fd p o).F a = (B.fd p o').F a := fun z => by show upd B.F p o _ = upd B.F p o' _; rw [upd_ne z, upd_ne z]
  refine ⟨r.ln, fun a u e => (r.g a u e).mono fun _ => up fun z => ?_, r.lk, fun a u e => ?_, fun i s e => (SlOk.lg (B := B.fd p o) (B' := B.fd p o') ⟨fun _ _ h => h, fun _ _ h => h⟩ (r.sl i s e)).heap fun a u l eo k => up (ne ⟨⟨s, e, l⟩, eo⟩) k, r.cl,
    fun n c a e1 e2 => (CeOk.lg (B := B.fd p o) (B' := B.fd p o') ⟨fun _ _ h => h, fun _ _ h => h⟩ (r.ce n c a e1 e2)).heap fun u k => up (nc (List.mem_of_getElem? e2)) k, fun i a h => ?_, fun n c a e1 e2 => ?_, r.ds, r.dc⟩
  · have e : B.G a = some u := e
    rw [z, gp] at e; cases e
  · have e : upd B.F p o' a = some u := e
    by_cases z : a = p
    · subst z
      rw [upd_same] at e; cases e
      exact ⟨upd_same, .inl gp⟩
    · rw [upd_ne z] at e
      have q := r.f a u (by show upd B.F p o a = some u; rw [upd_ne z]; exact e)
      exact ⟨up z q.1, q.2⟩
  · obtain ⟨h1, h2, h3⟩ := r.fs i a h
    exact ⟨h1, by rw [← fe (ne h)]; exact h2, h3⟩
  · obtain ⟨h1, h2⟩ := r.fc n c a e1 e2
    exact ⟨h1, fun v => by rw [← fe (nc (List.mem_of_getElem? e2))]; exact h2 v⟩
/-- it is given back as new -/
theorem Rl.unfd {p : Addr} {o : HO} (r : Rl T S σ H (B.fd p o)) (ho : tupO o = false) (hr : p ∉ B.ρ) (hf : B.F p = none) : ∃ H', H' p = none ∧ H = upd H' p o ∧ Rl T S σ H' B := by
  have hp := r.fdAt
  have gp : B.G p = none := by
    rcases (r.f p o upd_same).2 with h | h
    · exact h
    · rw [ho] at h; cases h
  have ne : ∀ {i a}, Owns S σ i a → a ≠ p := fun h z => by
    have := (r.fs _ _ h).2.1
    rw [z] at this
    have this : upd B.F p o p = none := this
    rw [upd_same] at this; cases this
  have nc : ∀ {a}, a ∈ B.ρ → a ≠ p := fun h z => by subst z; exact hr h
  let H' : Hp := fun b => if b = p then none else H b
  have up : ∀ {a u}, a ≠ p → H a = some u → H' a = some u := fun {a u} z e => by show (if a = p then none else H a) = some u; rw [if_neg z]; exact e
  refine ⟨H', if_pos rfl, ?_, r.ln, fun a u e => (r.g a u e).mono fun _ => up fun z => ?_, r.lk, fun a u e => ?_, fun i s e => ((r.sl i s e).lg Bd.fd_lg).heap fun a u l eo k => up (ne ⟨⟨s, e, l⟩, eo⟩) k, r.cl,
    fun n c a e1 e2 => ((r.ce n c a e1 e2).lg Bd.fd_lg).heap fun u k => up (nc (List.mem_of_getElem? e2)) k, fun i a h => ?_, fun n c a e1 e2 => ?_, r.ds, r.dc⟩
  · funext b
    by_cases z : b = p
    · subst z; rw [upd_same, hp]
    · rw [upd_ne z]; show H b = if b = p then none else H b; rw [if_neg z]
  · rw [z, gp] at e; cases e
  · have z : a ≠ p := fun z => by rw [z, hf] at e; cases e
    have q := r.f a u (by show upd B.F p o a = some u; rw [upd_ne z]; exact e)
    exact ⟨up z q.1, q.2⟩
  · obtain ⟨h1, h2, h3⟩ := r.fs i a h
    have h2 : upd B.F p o a = none := h2
    rw [upd_ne (ne h)] at h2
    exact ⟨h1, h2, h3⟩
  · obtain ⟨h1, h2⟩ := r.fc n c a e1 e2
    refine ⟨h1, fun v => ?_⟩
    have h2 : upd B.F p o a = none := h2 v
    rw [upd_ne (nc (List.mem_of_getElem? e2))] at h2
    exact h2
end

/-! ### the comprehension -/
def lcL (own : List Nat) (g : Tgt) (t : Tst) (e : Exp) : List D → MS → List D → R (List D)
  | [], S, acc => .ok acc S
  | d :: ds, S, acc => match g d S with
    | none => .st
    | some S1 => match t S1 with
      | .ok false S2 => lcL own g t e ds (S2.wipe own) acc
      | .ok true S2 => match e S2 with
        | .ok y S3 => if acc.length < sizeLine then lcL own g t e ds (S3.wipe own) (acc ++ [y]) else .st
        | _ => .st
      | _ => .st
def fLc (own : List Nat) (its : Exps) (g : Tgt) (t : Tst) (e : Exp) : Frs := fun S => (its S).bind fun ds S1 =>
  if (own.all fun i => ((S1.env[i]?).getD .un).dead) = true then (lcL own g t e ds (S1.wipe own) []).bind fun xs S2 => .ok (.ol xs) (S2.back S1 own) else .st
/-- T within a block: nothing is let out -/
abbrev Su.blk (T : Su) : Su := { T with W := fun _ _ _ _ => False }
theorem PostF.le {T : Su} {σ : L2.St} {B B1 : Bd} {Q : VK} {r : R Sl} (h : PostF T σ B Q r) (l : B.le B1) : PostF T σ B1 Q r := by
  cases r with
  | ok s S => exact fun p o H' B' hp x l' => h p o H' B' hp x (l.trans l')
  | ex c fs S => exact fun C d H' B' e z x l' => h C d H' B' e z x (l.trans l')
  | st => exact h
theorem PostF.toI {T : Su} {σ : L2.St} {B : Bd} {P : VK} {Q : It → Hp → Prop} {r : R (List D)} {f : List D → MS → R Sl} (h : PostF T σ B P (r.bind f))
    (k : ∀ ds S1 J H1 B1, Rl T.toZu S1 σ H1 B1 → B.le B1 → ItOk T.toZu J ds B1 → PostF T σ B1 P (f ds S1) → Q J H1) : PostI T σ B Q r := by
  cases r with
  | ok ds S => exact fun J H' B' x l o => k ds S J H' B' x l o (PostF.le (r := f ds S) h l)
  | ex c fs S => exact h
  | st => exact h
theorem lc_of {T : Su} {own : List Nat} {its : Exps} {g : Tgt} {t : Tst} {e : Exp} {σ : L2.St} {H : Hp} {Q : VK} (h : TFm T (fLc own its g t e) σ H Q) :
    tLc (TIm T its) (TWm T.blk own g) (TTm T.blk t) (TEm T.blk e) own σ H Q := by
  obtain ⟨S, B, rl, h⟩ := h
  refine ⟨S, B, rl, PostF.toI h fun ds S1 J H1 B1 r1 l1 o h1 => ?_⟩
  have h1' : PostF T σ B1 Q (if (own.all fun i => ((S1.env[i]?).getD .un).dead) = true then (lcL own g t e ds (S1.wipe own) []).bind fun xs S2 => .ok (.ol xs) (S2.back S1 own) else .st) := h1
  by_cases c : (own.all fun i => ((S1.env[i]?).getD .un).dead) = true
  case neg => rw [if_neg c] at h1'; exact h1'.elim
  rw [if_pos c] at h1'
  have hd : ∀ i ∈ own, ((S1.env[i]?).getD .un).dead = true := List.all_eq_true.mp c
  intro D hD
  have fD : B1.F D = none := by
    cases q : B1.F D with
    | none => rfl
    | some u => rw [(r1.f D u q).1] at hD; cases hD
  have rD : D ∉ B1.ρ := fun z => by obtain ⟨u, k⟩ := r1.cellv z; rw [hD] at k; cases k
  refine ⟨fun i m H' => m = ds.length - i ∧ i ≤ ds.length ∧ ∃ S' B' acc xs, Rl T.toZu S' (L2.wipe σ own) H' (B'.fd D (.lst xs)) ∧ D ∉ B'.ρ ∧ B1.le B' ∧ RepL T.toCfg B' acc xs ∧
      PostF T σ B' Q ((lcL own g t e (ds.drop i) S' acc).bind fun xs S2 => .ok (.ol xs) (S2.back S1 own)), ⟨ds.length, rfl, Nat.zero_le _, S1.wipe own, B1, [], [], (r1.wipe).laidF hD _, rD, .rfl', .nil, h1'⟩, ?_⟩
  rintro i m H' ⟨rfl, hi, S', B', acc, xs, r', nD, l', ra, h'⟩
  by_cases hlt : i < ds.length
  · right
    rw [List.drop_eq_getElem_cons hlt] at h'
    -- J serves in any later state
    have le1 : B1.lg (B'.fd D (.lst xs)) := ⟨l'.g, l'.r⟩
    obtain ⟨go, yl⟩ := o.go i S' (L2.wipe σ own) H' (B'.fd D (.lst xs)) ds[i] r' le1 (List.getElem?_eq_getElem hlt)
    refine ⟨go, fun H3 => ∃ S3 B3 acc xs, Rl T.toZu S3 (L2.wipe σ own) H3 (B3.fd D (.lst xs)) ∧ D ∉ B3.ρ ∧ B1.le B3 ∧ RepL T.toCfg B3 acc xs ∧ PostF T σ B3 Q ((lcL own g t e (ds.drop (i + 1)) S3 acc).bind fun xs S2 => .ok (.ol xs) (S2.back S1 own)),
      fun H3 n => ⟨ds.length - (i + 1), by omega, rfl, hlt, n⟩, fun x H2 hy => ?_⟩
    obtain ⟨B2', r2, l2', q2⟩ := yl x H2 hy
    obtain ⟨B2, rfl, l2, n2⟩ := fd_le l2'
    refine ⟨S', _, ds[i], r2, q2, ?_⟩
    unfold lcL at h'
    cases eg : g ds[i] S' with
    | none => rw [eg] at h'; exact h'.elim
    | some S3 =>
      rw [eg] at h'
      intro σ3 H3 B3' r3 l3' w3
      obtain ⟨B3, rfl, l3, n3⟩ := fd_le l3'
      rw [wipe_wipe] at w3
      refine ⟨w3, S3, _, r3, ?_⟩
      dsimp only at h'
      cases et : t S3 with
      | st => rw [et] at h'; exact h'.elim
      | ex _ _ _ => rw [et] at h'; exact h'.elim
      | ok b S4 =>
        rw [et] at h'
        intro b' H4 B4' r4 l4' eb
        cases eb
        obtain ⟨B4, rfl, l4, n4⟩ := fd_le l4'
        have l04 : B'.le B4 := (l2.trans l3).trans l4
        cases b with
        | false =>
          have h' : PostF T σ B' Q ((lcL own g t e (ds.drop (i + 1)) (S4.wipe own) acc).bind fun xs S2 => .ok (.ol xs) (S2.back S1 own)) := h'
          refine iteF ⟨S4.wipe own, B4, acc, xs, ?_, n4 (n3 (n2 nD)), l'.trans l04, ra.le l04, PostF.le h' l04⟩
          have := r4.wipe (vs := own)
          rw [w3] at this
          exact this
        | true =>
          refine iteT ⟨S4, _, r4, ?_⟩
          dsimp only at h'
          cases ee : e S4 with
          | st => rw [ee] at h'; exact h'.elim
          | ex _ _ _ => rw [ee] at h'; exact h'.elim
          | ok y S5 =>
            rw [ee] at h'
            have h' : PostF T σ B' Q ((if acc.length < sizeLine then lcL own g t e (ds.drop (i + 1)) (S5.wipe own) (acc ++ [y]) else .st).bind fun xs S2 => .ok (.ol xs) (S2.back S1 own)) := h'
            intro v H5 B5' r5 l5' rv
            obtain ⟨B5, rfl, l5, n5⟩ := fd_le l5'
            have l05 : B'.le B5 := l04.trans l5
            by_cases hz : acc.length < sizeLine
            · rw [if_pos hz] at h'
              refine ⟨xs, r5.fdAt, by rw [← ra.length]; exact hz, S5.wipe own, B5, acc ++ [y], xs ++ [v], ?_, n5 (n4 (n3 (n2 nD))), l'.trans l05, (ra.le l05).append (.cons (rv.lg Bd.fd_lg) .nil), PostF.le h' l05⟩
              have := (r5.mutF rfl (n5 (n4 (n3 (n2 nD)))) (.lst (xs ++ [v]))).wipe (vs := own)
              rw [w3] at this
              exact this
            · rw [if_neg hz] at h'; exact h'.elim
  · left
    have e0 : i = ds.length := by omega
    subst e0
    rw [List.drop_length] at h'
    have h' : PostF T σ B' Q (.ok (.ol acc) (S'.back S1 own)) := h'
    refine ⟨o.stop _ S' (L2.wipe σ own) H' _ r' ⟨l'.g, l'.r⟩ (Nat.le_refl _), ?_⟩
    obtain ⟨H0, n0, eH, r0⟩ := r'.unfd rfl nD (by rw [l'.f]; exact fD)
    subst eH
    exact h' D (.lst xs) H0 B' n0 (r1.backS r0 l'.lg hd) .rfl' rfl ⟨D, xs, rfl, upd_same, ra⟩
section
variable {X : Cx} {T : Su} {elt tg iter : Expr} {ifs : List Expr} {scope : Scope} {own : List (Str × Nat)} {vs : List Nat} {pos : Pos} {its : Exps} {g : Tgt} {t : Tst} {e : Exp}
/-- a comprehension, a new list -/
theorem f_lc (hc : X.calm = true) (hN : X.N.Nodup) (hi : PI X tg iter (TIm T its)) (ok : BlkOk X.N X.env.scope scope own)
    (hg : ∀ (s : Shared) (H : Hp) (C : Addr) (cl : List (Str × Addr)) (fp : List Addr), PG (X.blk s H scope (compEnvC scope cl C X.env) fp) tg (TWm T.blk (own.map (·.2)) g)) (ht : ∀ (s : Shared) (H : Hp) (C : Addr) (cl : List (Str × Addr)) (fp : List Addr), PTs (X.blk s H scope (compEnvC scope cl C X.env) fp) ifs (TTm T.blk t))
    (he : ∀ (s : Shared) (H : Hp) (C : Addr) (cl : List (Str × Addr)) (fp : List Addr), PE (X.blk s H scope (compEnvC scope cl C X.env) fp) elt (TEm T.blk e)) (hs : ∀ x, foldedSetIterable iter X.env x = pure x := by intro _; rfl) :
    PE X (.ListComp elt [⟨tg, iter, ifs, 0⟩] scope pos) (TFm T (fLc (own.map (·.2)) its g t e)) := peI (pe_lc hc hN hi ok hg ht he hs) fun σ H Q h => lc_of h
/-- name = [..] on one line -/
theorem y_setLc {i : Nat} {y : Str} {py spos : Pos} (hc : X.calm = true) (hN : X.N.Nodup) (hy : X.N[i]? = some y) (hyl : X.env.scope.names.lookup y = some .local)
    (hsw : swapsWith (.ListComp elt [⟨tg, iter, ifs, 0⟩] scope pos) (some (.Name y py)) spos.line X.env = pure true) (hi : PI X tg iter (TIm T its)) (ok : BlkOk X.N X.env.scope scope own)
    (hg : ∀ (s : Shared) (H : Hp) (C : Addr) (cl : List (Str × Addr)) (fp : List Addr), PG (X.blk s H scope (compEnvC scope cl C X.env) fp) tg (TWm T.blk (own.map (·.2)) g)) (ht : ∀ (s : Shared) (H : Hp) (C : Addr) (cl : List (Str × Addr)) (fp : List Addr), PTs (X.blk s H scope (compEnvC scope cl C X.env) fp) ifs (TTm T.blk t))
    (he : ∀ (s : Shared) (H : Hp) (C : Addr) (cl : List (Str × Addr)) (fp : List Addr), PE (X.blk s H scope (compEnvC scope cl C X.env) fp) elt (TEm T.blk e)) (hs : ∀ x, foldedSetIterable iter X.env x = pure x := by intro _; rfl) :
    PS X (.Assign [.Name y py] (.ListComp elt [⟨tg, iter, ifs, 0⟩] scope pos) spos) (TSm T (sOwn i (fLc (own.map (·.2)) its g t e))) :=
  psI (ps_setLc hc hN hy hyl hsw hi ok hg ht he hs) fun D σ H h => lc_of (own_of h)
end
end Mir
/-! Mir10: a look at what is one's own, without freezing it. -/
namespace Mir
open PySem PySem.Spec PyProof.Rows L2

mutual
/-- no list, dict, instance within -/
def D.flat : D → Bool
  | .non => true
  | .bl _ => true
  | .int _ => true
  | .str _ => true
  | .tup ds => D.flats ds
  | _ => false
def D.flats : List D → Bool
  | [] => true
  | d :: ds => d.flat && D.flats ds
end
def Sl.frz : Sl → Sl
  | .ol ds => .va (.lst ds)
  | .od t kvs => .va (.dic t kvs)
  | .oi c fs => .va (.ins c fs)
  | s => s
def hideS (is : List Nat) (s : Sl) (i : Nat) : Sl := if s.live = true then (if i ∈ is then s.frz else .un) else s
def MS.hide (S : MS) (is : List Nat) : MS := ⟨S.env.mapIdx fun i s => hideS is s i, S.sto.map fun _ => Cl.un⟩
def ownA (S : MS) (σ : L2.St) (i : Nat) : Option Addr := match S.env[i]?, (σ[i]? : Option (Option V)) with
  | some s, some (some (.ref a)) => if s.live = true then some a else none
  | _, _ => none
theorem ownA_iff {S : MS} {σ : L2.St} {i : Nat} {a : Addr} : ownA S σ i = some a ↔ Owns S σ i a := by
  unfold ownA
  constructor
  · intro h
    split at h
    · rename_i s b e1 e2
      by_cases c : s.live = true
      · rw [if_pos c] at h; cases h; exact ⟨⟨s, e1, c⟩, e2⟩
      · rw [if_neg c] at h; cases h
    · cases h
  · rintro ⟨⟨s, e1, c⟩, e2⟩
    rw [e1, e2]
    exact if_pos c
/-- the borrowed, the others' -/
def bsA (S : MS) (σ : L2.St) (is : List Nat) : List Addr := is.filterMap (ownA S σ)
def osA (S : MS) (σ : L2.St) (is : List Nat) (ρ : List Addr) : List Addr := (((List.range S.env.length).filter fun i => !decide (i ∈ is)).filterMap (ownA S σ)) ++ ρ
theorem mem_bs {S : MS} {σ : L2.St} {is : List Nat} {a : Addr} : a ∈ bsA S σ is ↔ ∃ i ∈ is, Owns S σ i a := by
  unfold bsA
  rw [List.mem_filterMap]
  exact ⟨fun ⟨i, h, e⟩ => ⟨i, h, ownA_iff.mp e⟩, fun ⟨i, h, e⟩ => ⟨i, h, ownA_iff.mpr e⟩⟩
theorem mem_os {S : MS} {σ : L2.St} {is : List Nat} {ρ : List Addr} {a : Addr} : a ∈ osA S σ is ρ ↔ (∃ i, i ∉ is ∧ Owns S σ i a) ∨ a ∈ ρ := by
  unfold osA
  rw [List.mem_append, List.mem_filterMap]
  constructor
  · rintro (⟨i, h, e⟩ | h)
    · rw [List.mem_filter] at h
      exact .inl ⟨i, by simpa using h.2, ownA_iff.mp e⟩
    · exact .inr h
  · rintro (⟨i, h, e⟩ | h)
    · refine .inl ⟨i, ?_, ownA_iff.mpr e⟩
      rw [List.mem_filter]
      refine ⟨?_, by simpa using h⟩
      obtain ⟨⟨s, e1, _⟩, _⟩ := e
      exact List.mem_range.mpr (List.getElem?_eq_some_iff.mp e1).1
    · exact .inr h
def Bd.hide (B : Bd) (S : MS) (σ : L2.St) (H : Hp) (is : List Nat) : Bd := ⟨fun a => if a ∈ bsA S σ is then H a else B.G a, fun a => if a ∈ osA S σ is B.ρ then H a else B.F a, B.ρ, B.L⟩
def Bd.show (B1 B : Bd) (S : MS) (σ : L2.St) (is : List Nat) : Bd := ⟨fun a => if a ∈ bsA S σ is then none else B1.G a, B.F, B.ρ, B.L⟩
section
variable {T : Zu} {S S1 : MS} {σ : L2.St} {H H' : Hp} {B B1 : Bd} {is : List Nat}
theorem Rl.bsG (r : Rl T S σ H B) {a : Addr} (h : a ∈ bsA S σ is) : B.G a = none ∧ B.F a = none ∧ a ∉ B.ρ ∧ ∃ o, H a = some o ∧ tupO o = false := by
  obtain ⟨i, _, ow⟩ := mem_bs.mp h
  obtain ⟨h1, h2, h3⟩ := r.fs i a ow
  obtain ⟨o, ho⟩ := Owns.lv r ow
  exact ⟨h1, h2, h3, o, ho, Owns.ntup r ow ho⟩
theorem Rl.lgH (r : Rl T S σ H B) : B.lg (B.hide S σ H is) := ⟨fun a u h => by
  show (if a ∈ bsA S σ is then H a else B.G a) = some u
  rw [if_neg (fun z => by rw [(r.bsG z).1] at h; cases h)]; exact h, fun _ _ h => h⟩
theorem Rl.hide (r : Rl T S σ H B) : Rl T (S.hide is) σ H (B.hide S σ H is) := by
  have nolive : ∀ {i : Nat} {s : Sl}, (S.hide is).env[i]? = some s → ∃ s0, S.env[i]? = some s0 ∧ s = hideS is s0 i := fun {i s} e => by
    have e : (S.env.mapIdx fun i s => hideS is s i)[i]? = some s := e
    rw [List.getElem?_mapIdx] at e
    obtain ⟨s0, e0, e1⟩ := Option.map_eq_some_iff.mp e
    exact ⟨s0, e0, e1.symm⟩
  have dead : ∀ {s0 : Sl} {i : Nat}, (hideS is s0 i).live = false := fun {s0 i} => by
    unfold hideS
    by_cases c : s0.live = true
    · rw [if_pos c]
      by_cases d : i ∈ is
      · rw [if_pos d]; cases s0 <;> first | rfl | cases c
      · rw [if_neg d]; rfl
    · rw [if_neg c]; cases h : s0.live <;> first | rfl | exact absurd h c
  have no : ∀ {i a}, ¬ Owns (S.hide is) σ i a := fun {i a} ⟨⟨s, e, l⟩, _⟩ => by
    obtain ⟨s0, _, rfl⟩ := nolive e
    rw [dead] at l; cases l
  have Gin : ∀ {a}, a ∈ bsA S σ is → (B.hide S σ H is).G a = H a := fun h => if_pos h
  have Gout : ∀ {a}, a ∉ bsA S σ is → (B.hide S σ H is).G a = B.G a := fun h => if_neg h
  refine ⟨?_, fun a o e => ?_, fun a e => ?_, fun a o e => ?_, fun j s e => ?_, ?_, fun n c a e1 e2 => ?_, fun i a h => absurd h no, fun n c a e1 e2 => ?_, fun i j a h => absurd h no, r.dc⟩
  · show σ.length = (S.env.mapIdx fun i s => hideS is s i).length
    rw [List.length_mapIdx]; exact r.ln
  · by_cases c : a ∈ bsA S σ is
    · rw [Gin c] at e
      exact .inl ⟨r.lno (r.bsG c).1, e⟩
    · rw [Gout c] at e
      exact r.g a o e
  · obtain ⟨o, q⟩ := r.lk a e
    exact ⟨o, r.lgH.g a o q⟩
  · have e : (if a ∈ osA S σ is B.ρ then H a else B.F a) = some o := e
    by_cases c : a ∈ osA S σ is B.ρ
    · rw [if_pos c] at e
      refine ⟨e, .inl ?_⟩
      rcases mem_os.mp c with ⟨i, ni, ow⟩ | hr
      · rw [Gout fun z => ?_]
        · exact (r.fs i a ow).1
        · obtain ⟨j, hj, ow2⟩ := mem_bs.mp z
          exact ni (r.ds i j a ow ow2 ▸ hj)
      · rw [Gout fun z => (r.bsG z).2.2.1 hr]
        exact r.cellG hr
    · rw [if_neg c] at e
      obtain ⟨h1, h2⟩ := r.f a o e
      refine ⟨h1, ?_⟩
      rw [Gout fun z => by rw [(r.bsG z).2.1] at e; cases e]
      exact h2
  · obtain ⟨s0, e0, rfl⟩ := nolive e
    have x := r.sl j s0 e0
    by_cases c : s0.live = true
    · unfold hideS
      rw [if_pos c]
      by_cases d : j ∈ is
      · rw [if_pos d]
        have inb : ∀ {a : Addr}, (σ[j]? : Option (Option V)) = some (some (.ref a)) → a ∈ bsA S σ is := fun ea => mem_bs.mpr ⟨j, d, ⟨_, e0, c⟩, ea⟩
        cases s0 with
        | un => cases c
        | va d => cases c
        | xc c' fs => cases c
        | ol ds => obtain ⟨a, xs, ea, k, q⟩ := x; exact ⟨.ref a, ea, .lst ((Gin (inb ea)).trans k) (q.lg r.lgH)⟩
        | od t kvs =>
          obtain ⟨a, ea, ⟨rfl, ks, k, q⟩ | ⟨rfl, ks, k, q⟩⟩ := x
          · exact ⟨.ref a, ea, .dic ((Gin (inb ea)).trans k) (q.lg r.lgH)⟩
          · exact ⟨.ref a, ea, .dit ((Gin (inb ea)).trans k) (q.lg r.lgH)⟩
        | oi c' fs => obtain ⟨a, C, dx, vs, ea, hc, k, q⟩ := x; exact ⟨.ref a, ea, .ins hc ((Gin (inb ea)).trans k) (q.lg r.lgH)⟩
      · rw [if_neg d]; trivial
    · unfold hideS
      rw [if_neg c]
      exact x.lg r.lgH
  · show (S.sto.map fun _ => Cl.un).length = B.ρ.length
    rw [List.length_map]; exact r.cl
  · have e1 : (S.sto.map fun _ => Cl.un)[n]? = some c := e1
    rw [List.getElem?_map] at e1
    obtain ⟨c0, e0, rfl⟩ := Option.map_eq_some_iff.mp e1
    have x := r.ce n c0 a e0 e2
    cases c0 with
    | un => exact x
    | l ds => obtain ⟨xs, k, _⟩ := x; exact ⟨_, k, rfl⟩
    | i c fs => obtain ⟨C, dx, vs, _, k, _⟩ := x; exact ⟨_, k, rfl⟩
  · have e1 : (S.sto.map fun _ => Cl.un)[n]? = some c := e1
    rw [List.getElem?_map] at e1
    obtain ⟨c0, e0, rfl⟩ := Option.map_eq_some_iff.mp e1
    have hr : a ∈ B.ρ := List.mem_of_getElem? e2
    refine ⟨?_, fun v => by cases v⟩
    rw [Gout fun z => (r.bsG z).2.2.1 hr]
    exact r.cellG hr
theorem Rl.show (r : Rl T S σ H B) (r1 : Rl T S1 σ H' B1) (l : (B.hide S σ H is).le B1) : Rl T S σ H' (B1.show B S σ is) ∧ B.le (B1.show B S σ is) ∧ ∀ a xs, B1.G a = some (.tup xs) → (B1.show B S σ is).G a = some (.tup xs) := by
  have Gin : ∀ {a}, a ∈ bsA S σ is → (B1.show B S σ is).G a = none := fun h => if_pos h
  have Gout : ∀ {a}, a ∉ bsA S σ is → (B1.show B S σ is).G a = B1.G a := fun h => if_neg h
  have le : B.le (B1.show B S σ is) := ⟨fun a u h => by
    rw [Gout fun z => by rw [(r.bsG z).1] at h; cases h]
    exact l.g a u (r.lgH.g a u h), rfl, rfl, fun _ _ h => h, fun _ h => .inl h⟩
  have hos : ∀ {a o}, a ∈ osA S σ is B.ρ → H a = some o → B1.F a = some o := fun {a o} h e => by rw [l.f]; exact (if_pos h).trans e
  have keep : ∀ {i a o}, Owns S σ i a → H a = some o → H' a = some o ∧ (B1.show B S σ is).G a = none := fun {i a o} ow e => by
    by_cases c : i ∈ is
    · have hb : a ∈ bsA S σ is := mem_bs.mpr ⟨i, c, ow⟩
      refine ⟨?_, Gin hb⟩
      have g1 := l.g a o ((if_pos hb).trans e)
      rcases r1.g a o g1 with ⟨_, q⟩ | ⟨q, _⟩
      · exact q
      · rw [l.l] at q
        have q : B.L a = true := q
        rw [r.lno (r.bsG hb).1] at q; cases q
    · have hb : a ∈ osA S σ is B.ρ := mem_os.mpr (.inl ⟨i, c, ow⟩)
      obtain ⟨k1, k2⟩ := r1.f a o (hos hb e)
      refine ⟨k1, ?_⟩
      rw [Gout fun z => ?_]
      · rcases k2 with k2 | k2
        · exact k2
        · rw [Owns.ntup r ow e] at k2; cases k2
      · obtain ⟨j, hj, ow2⟩ := mem_bs.mp z
        exact c (r.ds i j a ow ow2 ▸ hj)
  have keepC : ∀ {a o}, a ∈ B.ρ → H a = some o → H' a = some o ∧ (B1.show B S σ is).G a = none := fun {a o} h e => by
    obtain ⟨k1, k2⟩ := r1.f a o (hos (mem_os.mpr (.inr h)) e)
    refine ⟨k1, ?_⟩
    rw [Gout fun z => (r.bsG z).2.2.1 h]
    rcases k2 with k2 | k2
    · exact k2
    · obtain ⟨_, _, u, _, _, k, q⟩ := r.cellT h
      rw [e] at k; cases k; rw [q] at k2; cases k2
  refine ⟨⟨r.ln, fun a o e => ?_, fun a e => ?_, fun a o e => ?_, fun j s e => ?_, r.cl, fun n c a e1 e2 => ?_, fun i a h => ?_, fun n c a e1 e2 => ?_, r.ds, r.dc⟩, le, fun a xs e => ?_⟩
  · by_cases c : a ∈ bsA S σ is
    · rw [Gin c] at e; cases e
    · rw [Gout c] at e
      have := r1.g a o e
      rw [l.l] at this
      exact this
  · obtain ⟨o, q⟩ := r.lk a e
    exact ⟨o, le.g a o q⟩
  · have e : B.F a = some o := e
    have hF : B1.F a = some o := by
      by_cases c : a ∈ osA S σ is B.ρ
      · exact hos c (r.f a o e).1
      · rw [l.f]; exact (if_neg c).trans e
    obtain ⟨k1, k2⟩ := r1.f a o hF
    refine ⟨k1, ?_⟩
    by_cases c : a ∈ bsA S σ is
    · exact .inl (Gin c)
    · rw [Gout c]; exact k2
  · exact ((r.sl j s e).lg le.lg).heap fun a u lv eo hu => (keep (i := j) ⟨⟨s, e, lv⟩, eo⟩ hu).1
  · exact ((r.ce n c a e1 e2).lg le.lg).heap fun u k => (keepC (List.mem_of_getElem? e2) k).1
  · obtain ⟨h1, h2, h3⟩ := r.fs i a h
    obtain ⟨o, ho⟩ := Owns.lv r h
    exact ⟨(keep h ho).2, h2, h3⟩
  · have hr : a ∈ B.ρ := List.mem_of_getElem? e2
    obtain ⟨o, ho⟩ := r.cellv hr
    exact ⟨(keepC hr ho).2, (r.fc n c a e1 e2).2⟩
  · rw [Gout fun z => ?_]
    · exact e
    · obtain ⟨_, _, _, o, ho, nt⟩ := r.bsG z
      have := l.g a o ((if_pos z).trans ho)
      rw [e] at this; cases this; cases nt
end
mutual
theorem flat_rep {T : Cfg} {B B' : Bd} (h : ∀ a xs, B.G a = some (.tup xs) → B'.G a = some (.tup xs)) : ∀ {d : D} {v : V}, d.flat = true → Rep T B d v → Rep T B' d v
  | _, _, _, .non => .non
  | _, _, _, .bl b => .bl b
  | _, _, _, .int i => .int i
  | _, _, _, .str s => .str s
  | _, _, e, .lst _ _ => by cases e
  | _, _, e, .scr _ => by cases e
  | .tup ds, _, e, .tup q r => .tup (h _ _ q) (flats_rep h (show D.flats ds = true from e) r)
  | _, _, e, .dic _ _ => by cases e
  | _, _, e, .dit _ _ => by cases e
  | _, _, e, .ins _ _ _ => by cases e
  | _, _, e, .cel _ => by cases e
theorem flats_rep {T : Cfg} {B B' : Bd} (h : ∀ a xs, B.G a = some (.tup xs) → B'.G a = some (.tup xs)) : ∀ {ds : List D} {vs : List V}, D.flats ds = true → RepL T B ds vs → RepL T B' ds vs
  | _, _, _, .nil => .nil
  | d :: ds, _, e, .cons a b => by
    have e : (d.flat && D.flats ds) = true := e
    rw [Bool.and_eq_true] at e
    exact .cons (flat_rep h e.1 a) (flats_rep h e.2 b)
end

/-! ### the forms -/
def eBor (is : List Nat) (e : Exp) : Exp := fun S => match e (S.hide is) with
  | .ok d _ => if d.flat = true then .ok d S else .st
  | _ => .st
def tBor (is : List Nat) (t : Tst) : Tst := fun S => match t (S.hide is) with
  | .ok b _ => .ok b S
  | _ => .st
def fBor (is : List Nat) (f : Frs) : Frs := fun S => match f (S.hide is) with
  | .ok (.ol ds) _ => if D.flats ds = true then .ok (.ol ds) S else .st
  | _ => .st
section
variable {X : Cx} {T : Su} {e : Expr} {is : List Nat} {ee : Exp} {t : Tst} {f : Frs}
theorem r_bor (h : PE X e (TEm T ee)) : PE X e (TEm T (eBor is ee)) := peI h fun σ H Q ⟨S, B, rl, h⟩ => by
  refine ⟨_, _, rl.hide (is := is), ?_⟩
  unfold eBor at h
  cases e1 : ee (S.hide is) with
  | st => rw [e1] at h; exact h.elim
  | ex _ _ _ => rw [e1] at h; exact h.elim
  | ok d S1 =>
    rw [e1] at h
    have h' : PostR T σ B (RelD T) Q (if d.flat = true then .ok d S else .st) := h
    by_cases c : d.flat = true
    · rw [if_pos c] at h'
      intro v H' B1 r1 l1 q1
      obtain ⟨r2, l2, tp⟩ := rl.show r1 l1
      exact h' v H' _ r2 l2 (flat_rep tp c q1)
    · rw [if_neg c] at h'; exact h'.elim
theorem q_bor (h : PT X e (TTm T t)) : PT X e (TTm T (tBor is t)) := ptI h fun σ H Q ⟨S, B, rl, h⟩ => by
  refine ⟨_, _, rl.hide (is := is), ?_⟩
  unfold tBor at h
  cases e1 : t (S.hide is) with
  | st => rw [e1] at h; exact h.elim
  | ex _ _ _ => rw [e1] at h; exact h.elim
  | ok d S1 =>
    rw [e1] at h
    intro v H' B1 r1 l1 q1
    obtain ⟨r2, l2, tp⟩ := rl.show r1 l1
    exact h v H' _ r2 l2 q1
theorem f_bor (h : PE X e (TFm T f)) : PE X e (TFm T (fBor is f)) := peI h fun σ H Q ⟨S, B, rl, h⟩ => by
  refine ⟨_, _, rl.hide (is := is), ?_⟩
  unfold fBor at h
  cases e1 : f (S.hide is) with
  | st => rw [e1] at h; exact h.elim
  | ex _ _ _ => rw [e1] at h; exact h.elim
  | ok s S1 =>
    rw [e1] at h
    cases s with
    | un => exact h.elim
    | va _ => exact h.elim
    | od _ _ => exact h.elim
    | oi _ _ => exact h.elim
    | xc _ _ => exact h.elim
    | ol ds =>
      have h' : PostF T σ B Q (if D.flats ds = true then .ok (.ol ds) S else .st) := h
      by_cases c : D.flats ds = true
      · rw [if_pos c] at h'
        intro p o H' B1 hp r1 l1 lv q1
        obtain ⟨r2, l2, tp⟩ := rl.show r1 l1
        obtain ⟨a, xs, ea, k, q⟩ := q1
        exact h' p o H' _ hp r2 l2 rfl ⟨a, xs, ea, k, flats_rep tp c q⟩
      · rw [if_neg c] at h'; exact h'.elim
end
end Mir
/-! Mir11: what may be changed: a slot's own object, a cell. -/
namespace Mir
open PySem PySem.Spec PyProof.Rows L2

inductive Mo where
  | own (i : Nat) | cel (n : Nat)
abbrev Rf := MS → R Mo
def Cl.sl : Cl → Option Sl
  | .un => none
  | .l ds => some (.ol ds)
  | .i c fs => some (.oi c fs)
def Sl.cl : Sl → Option Cl
  | .ol ds => some (.l ds)
  | .oi c fs => some (.i c fs)
  | _ => none
def getM (S : MS) : Mo → Option Sl
  | .own i => match S.env[i]? with
    | some s => if s.live = true then some s else none
    | none => none
  | .cel n => match S.sto[n]? with
    | some c => c.sl
    | none => none
def setM (S : MS) (m : Mo) (s : Sl) : Option MS := match m with
  | .own i => some (S.put i s)
  | .cel n => match s.cl with
    | some c => some ⟨S.env, S.sto.set n c⟩
    | none => none
/-- where it stands -/
def AtM (σ : L2.St) (B : Bd) (a : Addr) : Mo → Prop
  | .own i => (σ[i]? : Option (Option V)) = some (some (.ref a))
  | .cel n => B.ρ[n]? = some a
theorem AtM.le {σ : L2.St} {B B' : Bd} {a : Addr} {m : Mo} (h : AtM σ B a m) (l : B.lg B') : AtM σ B' a m := by
  cases m with
  | own i => exact h
  | cel n => exact l.r n a h
section
variable {T : Zu} {S : MS} {σ : L2.St} {H : Hp} {B : Bd}
theorem Rl.getM (r : Rl T S σ H B) {m : Mo} {a : Addr} {s : Sl} (h : AtM σ B a m) (e : getM S m = some s) : SlOk T B H s (some (some (.ref a))) ∧ s.live = true := by
  cases m with
  | own i =>
    replace e : (match S.env[i]? with | some s => if s.live = true then some s else none | none => none) = some s := e
    cases es : S.env[i]? with
    | none => rw [es] at e; cases e
    | some s0 =>
      rw [es] at e
      replace e : (if s0.live = true then some s0 else none) = some s := e
      by_cases c : s0.live = true
      · rw [if_pos c] at e; cases e
        have x := r.sl i s es
        rw [show (σ[i]? : Option (Option V)) = some (some (.ref a)) from h] at x
        exact ⟨x, c⟩
      · rw [if_neg c] at e; cases e
  | cel n =>
    replace e : (match S.sto[n]? with | some c => c.sl | none => none) = some s := e
    cases es : S.sto[n]? with
    | none => rw [es] at e; cases e
    | some c0 =>
      rw [es] at e
      have x := r.ce n c0 a es h
      cases c0 with
      | un => cases e
      | l ds => cases e; obtain ⟨xs, k, q⟩ := x; exact ⟨⟨a, xs, rfl, k, q⟩, rfl⟩
      | i c fs => cases e; obtain ⟨C, dx, vs, hc, k, q⟩ := x; exact ⟨⟨a, C, dx, vs, rfl, hc, k, q⟩, rfl⟩
/-- a cell changes -/
theorem Rl.mutC (r : Rl T S σ H B) {n : Nat} {c c' : Cl} {a : Addr} {o : HO} (hs : S.sto[n]? = some c) (hv : c.vis = true) (ha : B.ρ[n]? = some a) (q : CeOk T.toCfg B (upd H a o) c' a) : Rl T ⟨S.env, S.sto.set n c'⟩ σ (upd H a o) B := by
  have hr : a ∈ B.ρ := List.mem_of_getElem? ha
  obtain ⟨ga, fa⟩ := r.fc n c a hs ha
  have fa := fa hv
  have up : ∀ {b u}, b ≠ a → H b = some u → upd H a o b = some u := fun z e => by rw [upd_ne z]; exact e
  have inj : ∀ {m : Nat}, B.ρ[m]? = some a → m = n := fun {m} e => by
    have hm := (List.getElem?_eq_some_iff.mp e).1
    exact (List.getElem?_inj hm r.dc).mp (e.trans ha.symm)
  have hn := (List.getElem?_eq_some_iff.mp hs).1
  refine ⟨r.ln, fun b u e => (r.g b u e).mono fun _ => up (fun z => by rw [z, ga] at e; cases e), r.lk, fun b u e => ⟨up (fun z => by rw [z, fa] at e; cases e) (r.f b u e).1, (r.f b u e).2⟩,
    fun j s e => (r.sl j s e).heap fun b u l eb k => up (fun z => by subst z; exact (r.fs j b ⟨⟨s, e, l⟩, eb⟩).2.2 hr) k, ?_, fun m c2 b e1 e2 => ?_, r.fs, fun m c2 b e1 e2 => ?_, r.ds, r.dc⟩
  · show (S.sto.set n c').length = _
    rw [List.length_set]; exact r.cl
  · have e1 : (S.sto.set n c')[m]? = some c2 := e1
    by_cases z : n = m
    · subst z
      rw [List.getElem?_set_self hn] at e1
      cases e1
      rw [ha] at e2; cases e2
      exact q
    · rw [List.getElem?_set_ne z] at e1
      exact (r.ce m c2 b e1 e2).heap fun u k => up (fun w => by subst w; exact z (inj e2).symm) k
  · have e1 : (S.sto.set n c')[m]? = some c2 := e1
    by_cases z : n = m
    · subst z
      rw [ha] at e2; cases e2
      exact ⟨ga, fun _ => fa⟩
    · rw [List.getElem?_set_ne z] at e1
      exact r.fc m c2 b e1 e2
theorem Rl.setM (r : Rl T S σ H B) {m : Mo} {a : Addr} {s s' : Sl} {S' : MS} {o : HO} (h : AtM σ B a m) (e : Mir.getM S m = some s) (es : Mir.setM S m s' = some S') (q : SlOk T B (upd H a o) s' (some (some (.ref a)))) : Rl T S' σ (upd H a o) B := by
  cases m with
  | own i =>
    replace e : (match S.env[i]? with | some s => if s.live = true then some s else none | none => none) = some s := e
    cases e0 : S.env[i]? with
    | none => rw [e0] at e; cases e
    | some s0 =>
      rw [e0] at e
      replace e : (if s0.live = true then some s0 else none) = some s := e
      by_cases c : s0.live = true
      · cases es
        exact r.mut e0 c h q
      · rw [if_neg c] at e; cases e
  | cel n =>
    replace e : (match S.sto[n]? with | some c => c.sl | none => none) = some s := e
    replace es : (match s'.cl with | some c => some (⟨S.env, S.sto.set n c⟩ : MS) | none => none) = some S' := es
    cases e0 : S.sto[n]? with
    | none => rw [e0] at e; cases e
    | some c0 =>
      rw [e0] at e
      have hv : c0.vis = true := by cases c0 <;> first | rfl | cases e
      cases s' with
      | ol ds =>
        cases es
        obtain ⟨a', xs, ea, k, q⟩ := q
        cases ea
        exact r.mutC e0 hv h ⟨xs, k, q⟩
      | oi c fs =>
        cases es
        obtain ⟨a', C, dx, vs, ea, hc, k, q⟩ := q
        cases ea
        exact r.mutC e0 hv h ⟨C, dx, vs, hc, k, q⟩
      | _ => cases es
/-- a new cell -/
theorem Rl.newC (r : Rl T S σ H B) {p : Addr} {c : Cl} {o : HO} (hp : H p = none) (q : CeOk T.toCfg B (upd H p o) c p) : Rl T ⟨S.env, S.sto ++ [c]⟩ σ (upd H p o) { B with ρ := B.ρ ++ [p] } ∧ B.le { B with ρ := B.ρ ++ [p] } := by
  have r0 := r.beside hp o
  have fp : B.F p = none := by
    cases e : B.F p with
    | none => rfl
    | some u => rw [(r.f p u e).1] at hp; cases hp
  have rp : p ∉ B.ρ := fun z => by obtain ⟨u, k⟩ := r.cellv z; rw [hp] at k; cases k
  have lg : B.lg { B with ρ := B.ρ ++ [p] } := ⟨fun _ _ h => h, fun n a h => by
    show (B.ρ ++ [p])[n]? = some a
    rw [List.getElem?_append_left (List.getElem?_eq_some_iff.mp h).1]; exact h⟩
  have pn : ∀ {i a}, Owns S σ i a → a ≠ p := fun h z => by obtain ⟨u, k⟩ := Owns.lv r h; rw [z, hp] at k; cases k
  have ix : ∀ {n : Nat} {c2 : Cl} {a : Addr}, (S.sto ++ [c])[n]? = some c2 → (B.ρ ++ [p])[n]? = some a → (S.sto[n]? = some c2 ∧ B.ρ[n]? = some a) ∨ (c2 = c ∧ a = p) := fun {n c2 a} e1 e2 => by
    by_cases hn : n < S.sto.length
    · rw [List.getElem?_append_left hn] at e1
      rw [List.getElem?_append_left (by rw [← r.cl]; exact hn)] at e2
      exact .inl ⟨e1, e2⟩
    · right
      rw [List.getElem?_append_right (by omega)] at e1
      rw [List.getElem?_append_right (by rw [← r.cl]; omega)] at e2
      have h0 : n - S.sto.length = 0 := by
        have := (List.getElem?_eq_some_iff.mp e1).1
        simp at this; omega
      rw [h0] at e1
      rw [← r.cl, h0] at e2
      simp at e1 e2
      exact ⟨e1.symm, e2.symm⟩
  refine ⟨⟨r.ln, r0.g, r0.lk, r0.f, fun i s e => (r0.sl i s e).lg lg, ?_, fun n c2 a e1 e2 => ?_, fun i a h => ?_, fun n c2 a e1 e2 => ?_, r.ds, ?_⟩, lg.g, rfl, rfl, lg.r, fun a h => ?_⟩
  · show (S.sto ++ [c]).length = (B.ρ ++ [p]).length
    rw [List.length_append, List.length_append, r.cl]; rfl
  · rcases ix e1 e2 with ⟨h1, h2⟩ | ⟨rfl, rfl⟩
    · exact (r0.ce n c2 a h1 h2).lg lg
    · exact q.lg lg
  · obtain ⟨h1, h2, h3⟩ := r.fs i a h
    refine ⟨h1, h2, fun z => ?_⟩
    have z : a ∈ B.ρ ++ [p] := z
    rcases List.mem_append.mp z with z | z
    · exact h3 z
    · exact pn h (by simpa using z)
  · rcases ix e1 e2 with ⟨h1, h2⟩ | ⟨_, rfl⟩
    · exact r.fc n c2 a h1 h2
    · exact ⟨r.gnone hp, fun _ => fp⟩
  · show (B.ρ ++ [p]).Nodup
    rw [List.nodup_append]
    exact ⟨r.dc, by simp, fun a ha b hb z => by simp at hb; subst hb; exact rp (z ▸ ha)⟩
  · have h : a ∈ B.ρ ++ [p] := h
    rcases List.mem_append.mp h with h | h
    · exact .inl h
    · rw [show a = p by simpa using h]; exact .inr fp
end

/-! ### references -/
abbrev RelM (σ : L2.St) : Bd → Mo → V → Prop := fun B m v => ∃ a, v = .ref a ∧ AtM σ B a m
def TRm (T : Su) (r : Rf) : TE := fun σ H Q => ∃ S B, Rl T.toZu S σ H B ∧ PostR T σ B (RelM σ) Q (r S)
/-- a name: its own object, or the cell that it holds -/
def rfN (i : Nat) : Rf := fun S => match S.env[i]? with
  | some (.ol _) => .ok (.own i) S
  | some (.od _ _) => .ok (.own i) S
  | some (.oi _ _) => .ok (.own i) S
  | some (.va (.cel n)) => .ok (.cel n) S
  | _ => .st
def rfE (e : Exp) : Rf := fun S => (e S).bind fun d S1 => match d with
  | .cel n => .ok (.cel n) S1
  | _ => .st
section
variable {X : Cx} {T : Su} {pos : Pos} {e : Expr} {ee : Exp}
theorem rf_name (i : Nat) {x : Str} (hN : X.N[i]? = some x := by rfl) (hv : Vis X.env.scope x := by first | exact Or.inl rfl | exact Or.inr (Or.inl rfl) | exact Or.inr (Or.inr rfl)) (hd : (x == ("__debug__" : Str)) = false := by decide)
    (hcd : (x == ("__classdict__" : Str)) = false := by decide) : PE X (.Name x pos) (TRm T (rfN i)) := peI (pe_var hN hv hd hcd) fun σ H Q ⟨S, B, r, h⟩ => by
  unfold rfN at h
  cases e : S.env[i]? with
  | none => rw [e] at h; exact h.elim
  | some s =>
    rw [e] at h
    have x := r.sl i s e
    cases s with
    | un => exact h.elim
    | xc c fs => exact h.elim
    | va d =>
      cases d <;> first | exact h.elim | skip
      rename_i n
      obtain ⟨v, ev, q⟩ := x
      cases q with
      | cel hn => exact ⟨_, ev, h _ H B r .rfl' ⟨_, rfl, hn⟩⟩
    | ol ds => obtain ⟨a, xs, ev, k, q⟩ := x; exact ⟨_, ev, h _ H B r .rfl' ⟨a, rfl, ev⟩⟩
    | od t kvs => obtain ⟨a, ev, q⟩ := x; exact ⟨_, ev, h _ H B r .rfl' ⟨a, rfl, ev⟩⟩
    | oi c fs => obtain ⟨a, C, dx, vs, ev, hc, k, q⟩ := x; exact ⟨_, ev, h _ H B r .rfl' ⟨a, rfl, ev⟩⟩
theorem rf_e (he : PE X e (TEm T ee)) : PE X e (TRm T (rfE ee)) := peI he fun σ H Q ⟨S, B, rl, h⟩ => by
  refine ⟨S, B, rl, PostR.bind h fun d S1 v H1 B1 r1 l1 q1 h1 => ?_⟩
  cases q1 <;> first | exact h1.elim | skip
  rename_i hn
  exact h1 _ H1 B1 r1 .rfl' ⟨_, rfl, hn⟩
end

/-! ### x[i] of what may be changed -/
def ixS : Sl → D → Option D
  | .ol ds, .int i => atI ds i
  | .od t kvs, k => if keyFor t k = true then dlook kvs k else none
  | _, _ => none
def eIxR (a : Rf) (b : Exp) : Exp := fun S => (a S).bind fun m S1 => (b S1).bind fun k S2 => liftO S2 ((getM S2 m).bind fun s => ixS s k)
/-- a look-up in a dict of one's own -/
theorem dgetS {T : Zu} {S : MS} {σ : L2.St} {H : Hp} {B : Bd} {a : Addr} {t : Bool} {kvs : List (D × D)} {k : D} {w : V} (rl : Rl T S σ H B) (q1 : DicAt T.toCfg B H a t kvs) (q2 : Rep T.toCfg B k w) (hk : keyFor t k = true) :
    ∃ o, DGet H a w o ∧ RepO T.toCfg B (dlook kvs k) o := by
  rcases q1 with ⟨rfl, ks, hd, r⟩ | ⟨rfl, ks, hd, r⟩
  · have hk' : k.key.isSome = true := hk
    cases e : k.key with
    | none => rw [e] at hk'; cases hk'
    | some k0 =>
      have e' := key_eq e
      subst e'
      rw [rep_key q2]
      exact ⟨_, .inl ⟨ks, k0, .inl hd, rfl, rfl⟩, r.val k0⟩
  · have hk' : k.keyT.isSome = true := hk
    cases e : k.keyT with
    | none => rw [e] at hk'; cases hk'
    | some k0 =>
      have e' := keyT_eq e
      subst e'
      cases q2 with
      | tup hb rb =>
        rename_i b xs
        have hx := rep_keys rb
        subst hx
        exact ⟨_, .inr ⟨ks, k0, b, .inl hd, rfl, rl.tup hb, rfl⟩, r.val k0⟩
/-- the heap behind a store -/
theorem dputS {T : Zu} {S : MS} {σ : L2.St} {H : Hp} {B : Bd} {a : Addr} {t : Bool} {kvs : List (D × D)} {k d : D} {w v : V} (rl : Rl T S σ H B) (q1 : DicAt T.toCfg B H a t kvs) (q2 : Rep T.toCfg B k w) (q3 : Rep T.toCfg B d v) (hk : keyFor t k = true) (hl : kvs.length < sizeLine) :
    ∃ o, DPut H a w v (upd H a o) ∧ DicAt T.toCfg B (upd H a o) a t (dput kvs k d) := by
  rcases q1 with ⟨rfl, ks, hd, r⟩ | ⟨rfl, ks, hd, r⟩
  · have hk' : k.key.isSome = true := hk
    cases e : k.key with
    | none => rw [e] at hk'; cases hk'
    | some k0 =>
      have e' := key_eq e
      subst e'
      rw [rep_key q2]
      exact ⟨_, .k hd (by rw [← r.length]; exact hl), .inl ⟨rfl, _, upd_same, r.put k0 q3⟩⟩
  · have hk' : k.keyT.isSome = true := hk
    cases e : k.keyT with
    | none => rw [e] at hk'; cases hk'
    | some k0 =>
      have e' := keyT_eq e
      subst e'
      cases q2 with
      | tup hb rb =>
        rename_i b xs
        have hx := rep_keys rb
        subst hx
        exact ⟨_, .t hd (rl.tup hb) (by rw [← r.length]; exact hl), .inr ⟨rfl, _, upd_same, r.put k0 q3⟩⟩
section
variable {X : Cx} {T : Su} {pos : Pos} {a b : Expr} {ra : Rf} {eb : Exp}
theorem r_ixR (hK : T.K = X.K) (hu : X.A.units + 1 < cLine) (ha : PE X a (TRm T ra)) (hb : PE X b (TEm T eb)) (hs : PlainIx b := by exact fun _ _ => rfl) : PE X (.Subscript a b pos) (TEm T (eIxR ra eb)) :=
  peI (pe_ix (hK ▸ ix_M hu) ha hb hs) fun σ H Q ⟨S, B, rl, h⟩ => by
    refine ⟨S, B, rl, PostR.bind h fun m S1 v H1 B1 r1 l1 ⟨a, ev, at1⟩ h1 => ?_⟩
    refine ⟨S1, B1, r1, PostR.bind h1 fun k S2 w H2 B2 r2 l2 q2 h2 => ?_⟩
    subst ev
    obtain ⟨d, e, kk⟩ := liftO_post h2
    cases es : getM S2 m with
    | none => rw [es] at e; cases e
    | some s =>
      rw [es] at e
      replace e : ixS s k = some d := e
      obtain ⟨x, lv⟩ := r2.getM (at1.le l2.lg) es
      cases s with
      | un => cases lv
      | va _ => cases lv
      | xc _ _ => cases lv
      | oi _ _ => cases k <;> cases e
      | ol ds =>
        obtain ⟨a', xs, ea, hx, rx⟩ := x
        cases ea
        cases q2 <;> first | (cases e; done) | skip
        rename_i i
        obtain ⟨z, e2, rz⟩ := atI_rep rx (show atI ds i = some d from e)
        exact .inl (.inl ⟨a, xs, i, z, rfl, rfl, SqL.of hx, e2, kk _ H2 B2 r2 .rfl' rz⟩)
      | od t kvs =>
        obtain ⟨a', ea, qd⟩ := x
        cases ea
        have e' : (if keyFor t k = true then dlook kvs k else none) = some d := by cases k <;> exact e
        by_cases c : keyFor t k = true
        · rw [if_pos c] at e'
          obtain ⟨o, g, ro⟩ := dgetS r2 qd q2 c
          rw [e'] at ro
          cases o with
          | none => exact ro.elim
          | some z => exact .inr ⟨a, z, rfl, g, kk _ H2 B2 r2 .rfl' ro⟩
        · rw [if_neg c] at e'; cases e'
end

/-! ### x[i] = e of what may be changed -/
def setS : Sl → D → D → Option Sl
  | .ol ds, .int i, d => (ixN ds.length i).map fun j => .ol (ds.set j d)
  | .od t kvs, k, d => if keyFor t k = true ∧ kvs.length < sizeLine then some (.od t (dput kvs k d)) else none
  | _, _, _ => none
def gIx (a : Rf) (b : Exp) : D → MS → R Fl := fun d S => (a S).bind fun m S1 => (b S1).bind fun k S2 => match (getM S2 m).bind fun s => setS s k d with
  | some s' => liftG (setM S2 m s')
  | none => .st
def sIx (a : Rf) (b e : Exp) : Stm := fun S => (e S).bind fun d S1 => gIx a b d S1
theorem RepL.setAt {T : Cfg} {B : Bd} : ∀ {ds : List D} {vs : List V} (j : Nat) {d : D} {v : V}, RepL T B ds vs → Rep T B d v → RepL T B (ds.set j d) (vs.set j v)
  | _, _, _, _, _, .nil, _ => .nil
  | _, _, 0, _, _, .cons _ t, q => .cons q t
  | _, _, j + 1, _, _, .cons a t, q => .cons a (RepL.setAt j t q)
def rSetM : TSet := fun o i v H Q => rSetL o i v H Q ∨ rSetD o i v H Q
theorem set_M {X : Cx} (hu : X.A.units + 1 < cLine) : PSet X rSetM := by
  intro pins s σ H o i v ov iv u Q I ro ri rv h
  rcases h with h | h
  · exact set_list pins s σ H o i v ov iv u Q I ro ri rv h
  · exact set_dict hu pins s σ H o i v ov iv u Q I ro ri rv h
theorem PostS.stm {T : Su} {σ : L2.St} {B : Bd} {D : Ends} {r : R Mo} {f : Mo → MS → R Fl} {P : V → Hp → Prop} (h : PostS T B D (r.bind f))
    (k : ∀ m S1 a H1 B1, Rl T.toZu S1 σ H1 B1 → B.le B1 → AtM σ B1 a m → PostS T B1 D (f m S1) → P (.ref a) H1) : PostR T σ B (RelM σ) P r := PostS.bind h fun m S1 v H1 B1 r1 l1 ⟨a, ev, at1⟩ h1 => by
  subst ev; exact k m S1 a H1 B1 r1 l1 at1 h1
/-- the store itself -/
theorem setM_of {T : Su} {S : MS} {σ : L2.St} {H : Hp} {B : Bd} {D : Ends} {m : Mo} {a : Addr} {k d : Mir.D} {w v : V} (r : Rl T.toZu S σ H B) (at1 : AtM σ B a m) (q2 : Rep T.toCfg B k w) (q3 : Rep T.toCfg B d v)
    (h : PostS T B D (match (getM S m).bind fun s => setS s k d with | some s' => liftG (setM S m s') | none => .st)) : rSetM (.ref a) w v H fun H' => D.nx σ H' := by
  cases es : getM S m with
  | none => rw [es] at h; exact h.elim
  | some s =>
    rw [es] at h
    obtain ⟨x, lv⟩ := r.getM at1 es
    replace h : PostS T B D (match setS s k d with | some s' => liftG (setM S m s') | none => .st) := h
    cases e : setS s k d with
    | none => rw [e] at h; exact h.elim
    | some s' =>
      rw [e] at h
      replace h : PostS T B D (liftG (setM S m s')) := h
      cases em : setM S m s' with
      | none => rw [em] at h; exact h.elim
      | some S' =>
        rw [em] at h
        replace h : ∀ σ' H' B', Rl T.toZu S' σ' H' B' → B.le B' → D.nx σ' H' := h
        cases s with
        | un => cases lv
        | va _ => cases lv
        | xc _ _ => cases lv
        | oi _ _ => cases k <;> cases e
        | ol ds =>
          obtain ⟨a', xs, ea, hx, rx⟩ := x
          cases ea
          cases q2 <;> first | (cases e; done) | skip
          rename_i i
          obtain ⟨j, ej, e2⟩ := Option.map_eq_some_iff.mp (show (ixN ds.length i).map (fun j => Sl.ol (ds.set j d)) = some s' from e)
          subst e2
          exact .inl ⟨a, xs, i, j, rfl, rfl, hx, by rw [← rx.length]; exact ej, h _ _ B (r.setM at1 es em ⟨a, _, rfl, upd_same, rx.setAt j q3⟩) .rfl'⟩
        | od t kvs =>
          obtain ⟨a', ea, qd⟩ := x
          cases ea
          have e' : (if keyFor t k = true ∧ kvs.length < sizeLine then some (Sl.od t (dput kvs k d)) else none) = some s' := by cases k <;> exact e
          by_cases c : keyFor t k = true ∧ kvs.length < sizeLine
          · rw [if_pos c] at e'
            cases e'
            obtain ⟨o, g, qn⟩ := dputS r qd q2 q3 c.1 c.2
            exact .inr ⟨a, _, rfl, g, h _ _ B (r.setM at1 es em ⟨a, rfl, qn⟩) .rfl'⟩
          · rw [if_neg c] at e'; cases e'
section
variable {X : Cx} {T : Su} {pos pos' : Pos} {a b e : Expr} {ra : Rf} {eb ee : Exp}
theorem y_ix (hu : X.A.units + 1 < cLine) (ha : PE X a (TRm T ra)) (hb : PE X b (TEm T eb)) (he : PE X e (TEm T ee))
    (hA : ∀ v, assign (.Subscript a b pos') X.env v = (do
      let ov ← holding [v] (eval a X.env)
      let iv ← holding [v, ov] (eval b X.env)
      standAt pos'
      holding [v, ov, iv] (setItem ov iv v)
      release [v, ov, iv] []) := by intro _; rfl)
    (hs : swapsWithSole [.Subscript a b pos'] e pos.line X.env = pure false := by rfl) (hw : swappedStores [.Subscript a b pos'] e X.env = pure none := by rfl) (h1 : (assignEach [.Subscript a b pos'] X.env).map (·.2) = [assign (.Subscript a b pos') X.env] := by rfl) :
    PS X (.Assign [.Subscript a b pos'] e pos) (TSm T (sIx ra eb ee)) := psI (ps_asg he (pg_sub ha hb (set_M hu) hA) hs hw h1) fun D σ H ⟨S, B, rl, h⟩ => by
  refine ⟨S, B, rl, PostS.bind h fun d S1 v H1 B1 r1 l1 q1 h1 => ?_⟩
  refine ⟨S1, B1, r1, PostS.stm h1 fun m S2 a H2 B2 r2 l2 at2 h2 => ?_⟩
  refine ⟨S2, B2, r2, PostS.bind h2 fun k S3 w H3 B3 r3 l3 q3 h3 => ?_⟩
  exact setM_of r3 (at2.le l3.lg) q3 ((q1.le l2).le l3) h3
end

/-! ### methods that change a list -/
/-- a method's rule and its mirror -/
def MuL (T : Cfg) (r : V → List V → Hp → VK → Prop) (f : List D → List D → Option (D × List D)) : Prop := ∀ {B : Bd} {H : Hp} {a : Addr} {xs : List V} {ds as : List D} {vs : List V} {res : D} {ds' : List D} {Q : VK},
  H a = some (.lst xs) → RepL T B ds xs → RepL T B as vs → f ds as = some (res, ds') → (∀ w xs', Rep T B res w → RepL T B ds' xs' → Q w (upd H a (.lst xs'))) → r (.ref a) vs H Q
def eMu (a : Rf) (as : Exps) (f : List D → List D → Option (D × List D)) : Exp := fun S => (a S).bind fun m S1 => match getM S1 m with
  | some (.ol _) => (as S1).bind fun ds S2 => match getM S2 m with
    | some (.ol xs) => match f xs ds with
      | some (res, xs') => match setM S2 m (.ol xs') with
        | some S3 => .ok res S3
        | none => .st
      | none => .st
    | _ => .st
  | _ => .st
theorem mu_of {T : Su} {ra : Rf} {as : Exps} {f : List D → List D → Option (D × List D)} {r : V → List V → Hp → VK → Prop} (hm : MuL T.toCfg r f) {σ : L2.St} {H : Hp} {Q : VK} (h : TEm T (eMu ra as f) σ H Q) :
    TRm T ra σ H fun x H1 => tyV T.K "list" x H1 ∧ TAm T as σ H1 fun xs H2 => r x xs H2 Q := by
  obtain ⟨S, B, rl, h⟩ := h
  refine ⟨S, B, rl, PostR.bind h fun m S1 v H1 B1 r1 l1 ⟨a, ev, at1⟩ h1 => ?_⟩
  subst ev
  cases e1 : getM S1 m with
  | none => rw [e1] at h1; exact h1.elim
  | some s1 =>
    rw [e1] at h1
    cases s1 <;> first | exact h1.elim | skip
    obtain ⟨⟨a', xs1, ea, hx1, _⟩, _⟩ := r1.getM at1 e1
    cases ea
    refine ⟨.inl ⟨rfl, xs1, SqL.of hx1⟩, S1, B1, r1, PostR.bind h1 fun ds S2 vs H2 B2 r2 l2 q2 h2 => ?_⟩
    cases e2 : getM S2 m with
    | none => rw [e2] at h2; exact h2.elim
    | some s2 =>
      rw [e2] at h2
      cases s2 <;> first | exact h2.elim | skip
      rename_i xs
      obtain ⟨⟨a', xs2, ea, hx2, rx2⟩, _⟩ := r2.getM (at1.le l2.lg) e2
      cases ea
      replace h2 : PostR T σ B2 (RelD T) Q (match f xs ds with | some (res, xs') => (match setM S2 m (.ol xs') with | some S3 => .ok res S3 | none => .st) | none => .st) := h2
      cases ef : f xs ds with
      | none => rw [ef] at h2; exact h2.elim
      | some p =>
        obtain ⟨res, xs'⟩ := p
        rw [ef] at h2
        replace h2 : PostR T σ B2 (RelD T) Q (match setM S2 m (.ol xs') with | some S3 => .ok res S3 | none => .st) := h2
        cases em : setM S2 m (.ol xs') with
        | none => rw [em] at h2; exact h2.elim
        | some S3 =>
          rw [em] at h2
          replace h2 : PostR T σ B2 (RelD T) Q (.ok res S3) := h2
          exact hm hx2 rx2 q2 ef fun w ys qw qy => h2 w _ B2 (r2.setM (at1.le l2.lg) e2 em ⟨a, ys, rfl, upd_same, qy⟩) .rfl' qw
section
variable {X : Cx} {T : Su} {o e : Expr} {es : List Expr} {ra : Rf} {as : Exps} {f : List D → List D → Option (D × List D)} {r : V → List V → Hp → VK → Prop} {name : Str} {apos cpos : Pos} {id : String}
theorem r_mu (hK : T.K = X.K) (slot : Slot "list" name id) (hty : typeOf (.builtin id) = pure (.type "method_descriptor")) (hr : MtR X id r) (hm : MuL T.toCfg r f) (ho : PE X o (TRm T ra)) (ha : PA X (e :: es) (TAm T as))
    (hbase : attributeBase o name X.env (eval o X.env) = eval o X.env := by rfl)
    (hfew : ((backTo cpos (starEach (e :: es) X.env)).all (fun x => !x.1) && (backToKw cpos (keywordEach [] X.env)).all (fun x => x.1.isSome)
      && decide ((e :: es).length + ([] : List Keyword).length + (if ([] : List Keyword).isEmpty then 0 else 1) < 30)) = true := by rfl)
    (hline : (apos.endLine == cpos.line) = true := by rfl) (hs : starEach (e :: es) X.env = (false, eval e X.env) :: starEach es X.env := by rfl) (hplain : (backTo cpos (starEach es X.env)).any (·.1) = false := by rfl) :
    PE X (.Call (.Attribute o name apos) (e :: es) [] cpos) (TEm T (eMu ra as f)) := peI (pe_bm PySem.F.plainAttrs_list slot hty hr ho ha hbase hfew hline hs hplain) fun σ H Q h => hK ▸ mu_of hm h
theorem r_mu0 (hK : T.K = X.K) (slot : Slot "list" name id) (hty : typeOf (.builtin id) = pure (.type "method_descriptor")) (hr : MtR X id r) (hm : MuL T.toCfg r f) (ho : PE X o (TRm T ra))
    (hbase : attributeBase o name X.env (eval o X.env) = eval o X.env := by rfl) (hline : (apos.endLine == cpos.line) = true := by rfl) :
    PE X (.Call (.Attribute o name apos) [] [] cpos) (TEm T (eMu ra aNil f)) := peI (pe_bm0 PySem.F.plainAttrs_list slot hty hr ho hbase hline) fun σ H Q h => by
  have q := mu_of (as := aNil) hm h
  obtain ⟨S, B, rl, q⟩ := q
  refine ⟨S, B, rl, q.imp fun b H' ⟨ty, S1, B1, r1, q1⟩ => ?_⟩
  exact ⟨hK ▸ ty, q1 [] H' B1 r1 .rfl' .nil⟩
end
def muApp (xs as : List D) : Option (D × List D) := match as with
  | [d] => if xs.length < sizeLine then some (.non, xs ++ [d]) else none
  | _ => none
def muIns (xs as : List D) : Option (D × List D) := match as with
  | [.int i, d] => if xs.length < sizeLine ∧ 0 ≤ i ∧ i < 2 ^ 63 then some (.non, xs.take i.toNat ++ [d] ++ xs.drop i.toNat) else none
  | _ => none
def muPop (xs as : List D) : Option (D × List D) := match as, xs[xs.length - 1]? with
  | [], some d => some (d, xs.dropLast)
  | _, _ => none
theorem RepL.dropLast {T : Cfg} {B : Bd} {ds : List D} {vs : List V} (h : RepL T B ds vs) : RepL T B ds.dropLast vs.dropLast := by
  rw [List.dropLast_eq_take, List.dropLast_eq_take, h.length]
  exact RepL.take _ h
section
variable {T : Cfg}
theorem m_app : MuL T rAppend muApp := by
  intro B H a xs ds as vs res ds' Q hx rx ra e k
  unfold muApp at e
  cases ra with
  | nil => cases e
  | @cons d as v vs q1 q2 =>
    cases q2 with
    | cons _ _ => cases e
    | nil =>
      replace e : (if ds.length < sizeLine then some (D.non, ds ++ [d]) else none) = some (res, ds') := e
      by_cases c : ds.length < sizeLine
      · rw [if_pos c] at e; cases e
        exact ⟨a, xs, v, rfl, rfl, hx, by rw [← rx.length]; exact c, k _ _ .non (rx.append (.cons q1 .nil))⟩
      · rw [if_neg c] at e; cases e
theorem m_ins : MuL T (fun x vs H Q => ∃ (l : Addr) (xs : List V) (i : Int) (y : V), x = .ref l ∧ vs = [.int i, y] ∧ H l = some (.lst xs) ∧ xs.length < sizeLine ∧ 0 ≤ i ∧ i < 2 ^ 63 ∧
    Q .non (upd H l (.lst (xs.take i.toNat ++ [y] ++ xs.drop i.toNat)))) muIns := by
  intro B H a xs ds as vs res ds' Q hx rx ra e k
  unfold muIns at e
  cases ra with
  | nil => cases e
  | cons q1 q2 =>
    cases q2 with
    | nil => cases q1 <;> cases e
    | cons q2 q3 =>
      cases q3 with
      | cons _ _ => cases q1 <;> cases e
      | nil =>
        cases q1 <;> first | (cases e; done) | skip
        rename_i d v i
        replace e : (if ds.length < sizeLine ∧ 0 ≤ i ∧ i < 2 ^ 63 then some (D.non, ds.take i.toNat ++ [d] ++ ds.drop i.toNat) else none) = some (res, ds') := e
        by_cases c : ds.length < sizeLine ∧ 0 ≤ i ∧ i < 2 ^ 63
        · rw [if_pos c] at e; cases e
          exact ⟨a, xs, i, v, rfl, rfl, hx, by rw [← rx.length]; exact c.1, c.2.1, c.2.2, k _ _ .non (((rx.take _).append (.cons q2 .nil)).append (rx.drop _))⟩
        · rw [if_neg c] at e; cases e
theorem m_pop : MuL T rPop muPop := by
  intro B H a xs ds as vs res ds' Q hx rx ra e k
  unfold muPop at e
  cases ra with
  | cons _ _ => cases e
  | nil =>
    cases el : ds[ds.length - 1]? with
    | none => rw [el] at e; cases e
    | some d =>
      rw [el] at e; cases e
      obtain ⟨v, ev, q⟩ := rx.get el
      exact ⟨a, xs, v, rfl, rfl, hx, by rw [← rx.length]; exact ev, k _ _ q rx.dropLast⟩
end

/-! ### a new cell -/
def eCel (f : Frs) : Exp := fun S => (f S).bind fun s S1 => match s.cl with
  | some c => .ok (.cel S1.sto.length) ⟨S1.env, S1.sto ++ [c]⟩
  | none => .st
theorem r_cel {X : Cx} {T : Su} {e : Expr} {f : Frs} (h : PE X e (TFm T f)) : PE X e (TEm T (eCel f)) := peI h fun σ H Q ⟨S, B, rl, h⟩ => by
  refine ⟨S, B, rl, ?_⟩
  unfold eCel at h
  cases e1 : f S with
  | st => rw [e1] at h; exact h.elim
  | ex c fs S1 => rw [e1] at h; exact h
  | ok s S1 =>
    rw [e1] at h
    replace h : PostR T σ B (RelD T) Q (match s.cl with | some c => .ok (.cel S1.sto.length) ⟨S1.env, S1.sto ++ [c]⟩ | none => .st) := h
    intro p o H' B1 hp r1 l1 lv q1
    have fin : ∀ c, s.cl = some c → CeOk T.toCfg B1 (upd H' p o) c p → Q (.ref p) (upd H' p o) := fun c ec qc => by
      rw [ec] at h
      obtain ⟨r2, l2⟩ := r1.newC hp qc
      refine h _ _ _ r2 (l1.trans l2) (.cel ?_)
      show (B1.ρ ++ [p])[S1.sto.length]? = some p
      rw [r1.cl, List.getElem?_append_right (Nat.le_refl _)]
      simp
    cases s with
    | un => cases lv
    | va _ => cases lv
    | xc _ _ => cases lv
    | od t kvs => exact h.elim
    | ol ds =>
      obtain ⟨a, xs, ea, k, q⟩ := q1
      cases ea
      exact fin _ rfl ⟨xs, k, q⟩
    | oi c fs =>
      obtain ⟨a, C, dx, vs, ea, hc, k, q⟩ := q1
      cases ea
      exact fin _ rfl ⟨C, dx, vs, hc, k, q⟩
end Mir
/-! Mir12: exceptions: raise, try, fields; repr. -/
namespace Mir
open PySem PySem.Spec PyProof.Rows L2

/-! ### an exception that is made -/
abbrev Mkx := MS → R (Str × List (Str × D))
def PostK (T : Su) (σ : L2.St) (B : Bd) (Q : XK) : R (Str × List (Str × D)) → Prop
  | .ok p S' => ∀ C d H' B', T.cls p.1 = some C → XdOk T.toCfg B' d p.2 → Rl T.toZu S' σ H' B' → B.le B' → Q (.ref C) d H'
  | .ex c fs S' => ∀ C d H' B', T.cls c = some C → XdOk T.toCfg B' d fs → Rl T.toZu S' σ H' B' → B.le B' → T.W (.ref C) d σ H'
  | .st => False
def TKm (T : Su) (m : Mkx) : L2.St → Hp → XK → Prop := fun σ H Q => ∃ S B, Rl T.toZu S σ H B ∧ PostK T σ B Q (m S)
theorem pkI {X : Cx} {e : Expr} {t t' : L2.St → Hp → XK → Prop} (h : PMk X e t) (k : ∀ σ H Q, t' σ H Q → t σ H Q) : PMk X e t' := fun pins s σ H Q I q => h pins s σ H Q I (k σ H Q q)
def sRaise (m : Mkx) : Stm := fun S => (m S).bind fun p S1 => .ex p.1 p.2 S1
theorem y_raise {X : Cx} {T : Su} {e : Expr} {m : Mkx} {pos : Pos} (hc : X.calm = true) (tk : Takes X T.W) (he : PMk X e (TKm T m)) : PS X (.Raise (some e) none pos) (TSm T (sRaise m)) := psI (ps_raise hc tk he) fun D σ H ⟨S, B, rl, h⟩ => by
  refine ⟨S, B, rl, ?_⟩
  have h' : PostS T B D ((m S).bind fun p S1 => .ex p.1 p.2 S1) := h
  cases e1 : m S with
  | st => rw [e1] at h'; exact h'.elim
  | ex c fs S1 => rw [e1] at h'; exact fun C d H' B' q1 q2 r l => h' C d σ H' B' q1 q2 r l
  | ok p S1 => rw [e1] at h'; exact fun C d H' B' q1 q2 r l => h' C d σ H' B' q1 q2 r l
/-- C(e, ..): the fields are the arguments -/
def mkF (c : Str) (ns : List Str) (as : Exps) : Mkx := fun S => (as S).bind fun ds S1 => if ds.length = ns.length then .ok (c, ns.zip ds) S1 else .st
def tMkF (C : Addr) (ns : List Str) (t : TA) : L2.St → Hp → XK → Prop := fun σ H Q => t σ H fun vs H1 => vs.length = ns.length ∧ ∀ d, H1 d = none → Q (.ref C) (some d) (upd H1 d (.xd (ns.zip vs)))
theorem RepL.zip {T : Cfg} {B : Bd} : ∀ {ns : List Str} {ds : List D} {vs : List V}, RepL T B ds vs → RepF T B (ns.zip ds) (ns.zip vs)
  | [], _, _, _ => .nil
  | _ :: _, _, _, .nil => .nil
  | _ :: _, _, _, .cons a b => .cons a (RepL.zip b)
theorem PostK.bind {α β : Type} {T : Su} {σ : L2.St} {B : Bd} {Q : XK} {rel : Bd → α → β → Prop} {P : β → Hp → Prop} {r : R α} {f : α → MS → R (Str × List (Str × D))} (h : PostK T σ B Q (r.bind f))
    (k : ∀ a S1 b H1 B1, Rl T.toZu S1 σ H1 B1 → B.le B1 → rel B1 a b → PostK T σ B1 Q (f a S1) → P b H1) : PostR T σ B rel P r := by
  cases r with
  | ok a S =>
    refine fun b H' B' x l e => k a S b H' B' x l e ?_
    have h' : PostK T σ B Q (f a S) := h
    cases e2 : f a S with
    | ok s S2 => rw [e2] at h'; exact fun C d H2 B2 q1 q2 r2 l2 => h' C d H2 B2 q1 q2 r2 (l.trans l2)
    | ex c fs S2 => rw [e2] at h'; exact fun C d H2 B2 q1 q2 r2 l2 => h' C d H2 B2 q1 q2 r2 (l.trans l2)
    | st => rw [e2] at h'; exact h'.elim
  | ex c fs S => exact h
  | st => exact h
theorem k_fld {X : Cx} {T : Su} {C : Addr} {c : Str} {ns : List Str} {e : Expr} {as : Exps} (hC : T.cls c = some C) (he : PMk X e (tMkF C ns (TAm T as))) : PMk X e (TKm T (mkF c ns as)) := pkI he fun σ H Q ⟨S, B, rl, h⟩ => by
  refine ⟨S, B, rl, PostK.bind h fun ds S1 vs H1 B1 r1 l1 q1 h1 => ?_⟩
  by_cases c : ds.length = ns.length
  · rw [if_pos c] at h1
    refine ⟨by rw [← q1.length]; exact c, fun d hd => ?_⟩
    have le := Bd.le_add (o := HO.xd (ns.zip vs)) (r1.gnone hd)
    exact h1 C (some d) _ _ hC (.inr ⟨d, _, rfl, upd_same, (RepL.zip q1).le le⟩) (r1.alloc hd _) le
  · rw [if_neg c] at h1; exact h1.elim
/-- C(), no field -/
def mk0 (c : Str) : Mkx := fun S => .ok (c, []) S
theorem k_0 {X : Cx} {T : Su} {C : Addr} {c : Str} {e : Expr} (hC : T.cls c = some C) (he : PMk X e (fun σ H Q => Q (.ref C) none H)) : PMk X e (TKm T (mk0 c)) := pkI he fun σ H Q ⟨S, B, rl, h⟩ => h C none H B hC (.inl ⟨rfl, rfl⟩) rl .rfl'

/-! ### try -/
def Sl.nox : Sl → Sl
  | .xc _ _ => .un
  | s => s
def MS.nox (S : MS) : MS := ⟨S.env.map Sl.nox, S.sto⟩
theorem Rl.nox {T : Cfg} {Z Z' : Addr → Value → Option Addr → Prop} {S : MS} {σ : L2.St} {H : Hp} {B : Bd} (r : Rl ⟨T, Z⟩ S σ H B) : Rl ⟨T, Z'⟩ S.nox σ H B := by
  have at_ : ∀ {i : Nat} {s : Sl}, (S.nox).env[i]? = some s → ∃ s0, S.env[i]? = some s0 ∧ s = s0.nox := fun {i s} e => by
    have e : (S.env.map Sl.nox)[i]? = some s := e
    rw [List.getElem?_map] at e
    obtain ⟨s0, e0, e1⟩ := Option.map_eq_some_iff.mp e
    exact ⟨s0, e0, e1.symm⟩
  have ow : ∀ {i a}, Owns S.nox σ i a → Owns S σ i a := fun {i a} ⟨⟨s, e, l⟩, h⟩ => by
    obtain ⟨s0, e0, rfl⟩ := at_ e
    exact ⟨⟨s0, e0, by cases s0 <;> first | rfl | cases l⟩, h⟩
  refine ⟨?_, r.g, r.lk, r.f, fun i s e => ?_, r.cl, r.ce, fun i a h => r.fs i a (ow h), r.fc, fun i j a h1 h2 => r.ds i j a (ow h1) (ow h2), r.dc⟩
  · show σ.length = (S.env.map Sl.nox).length
    rw [List.length_map]; exact r.ln
  · obtain ⟨s0, e0, rfl⟩ := at_ e
    have x := r.sl i s0 e0
    cases s0 <;> first | exact x | trivial
/-- a slot is emptied -/
theorem Rl.unset {T : Zu} {S : MS} {σ : L2.St} {H : Hp} {B : Bd} (r : Rl T S σ H B) (i : Nat) (o : Option V) : Rl T (S.put i .un) (σ.set i o) H B := by
  have ow : ∀ {j a}, Owns (S.put i .un) (σ.set i o) j a → Owns S σ j a := fun {j a} ⟨⟨s, e, l⟩, h⟩ => by
    have e : (S.env.set i .un)[j]? = some s := e
    by_cases z : i = j
    · subst z
      rw [List.getElem?_set_self (by have := (List.getElem?_eq_some_iff.mp e).1; simpa using this)] at e
      cases e; cases l
    · rw [List.getElem?_set_ne z] at e h
      exact ⟨⟨s, e, l⟩, h⟩
  refine ⟨?_, r.g, r.lk, r.f, fun j s e => ?_, r.cl, r.ce, fun j a h => r.fs j a (ow h), r.fc, fun j k a h1 h2 => r.ds j k a (ow h1) (ow h2), r.dc⟩
  · show (σ.set i o).length = (S.env.set i .un).length
    rw [List.length_set, List.length_set]; exact r.ln
  · have e : (S.env.set i .un)[j]? = some s := e
    by_cases z : i = j
    · subst z
      rw [List.getElem?_set_self (by have := (List.getElem?_eq_some_iff.mp e).1; simpa using this)] at e
      cases e; trivial
    · rw [List.getElem?_set_ne z] at e
      rw [List.getElem?_set_ne z]
      exact r.sl j s e
/-- the exception comes into its slot -/
theorem Rl.caught {T : Cfg} {Z Z' : Addr → Value → Option Addr → Prop} {S : MS} {σ : L2.St} {H : Hp} {B : Bd} (r : Rl ⟨T, Z⟩ S σ H B) {i : Nat} (hi : i < S.env.length) {c : Str} {fs : List (Str × D)} {a C : Addr} {d : Option Addr} (hC : T.cls c = some C) (hz : Z' a (.ref C) d) (hx : XdOk T B d fs) :
    Rl ⟨T, Z'⟩ (S.nox.put i (.xc c fs)) (σ.set i (some (.ref a))) H B := by
  have r0 : Rl ⟨T, Z'⟩ S.nox σ H B := r.nox
  have hi' : i < S.nox.env.length := by show i < (S.env.map Sl.nox).length; rw [List.length_map]; exact hi
  have ow : ∀ {j b}, Owns (S.nox.put i (.xc c fs)) (σ.set i (some (.ref a))) j b → Owns S.nox σ j b := fun {j b} ⟨⟨s, e, l⟩, h⟩ => by
    have e : (S.nox.env.set i (.xc c fs))[j]? = some s := e
    by_cases z : i = j
    · subst z
      rw [List.getElem?_set_self hi'] at e
      cases e; cases l
    · rw [List.getElem?_set_ne z] at e h
      exact ⟨⟨s, e, l⟩, h⟩
  refine ⟨?_, r0.g, r0.lk, r0.f, fun j s e => ?_, r0.cl, r0.ce, fun j b h => r0.fs j b (ow h), r0.fc, fun j k b h1 h2 => r0.ds j k b (ow h1) (ow h2), r0.dc⟩
  · show (σ.set i _).length = (S.nox.env.set i _).length
    rw [List.length_set, List.length_set]; exact r0.ln
  · have e : (S.nox.env.set i (.xc c fs))[j]? = some s := e
    by_cases z : i = j
    · subst z
      rw [List.getElem?_set_self hi'] at e
      cases e
      exact ⟨a, C, d, List.getElem?_set_self (by rw [r0.ln]; exact hi'), hC, hz, hx⟩
    · rw [List.getElem?_set_ne z] at e
      rw [List.getElem?_set_ne z]
      exact r0.sl j s e
/-- behind a suite -/
def outS (f : MS → MS) : R Fl → R Fl
  | .ok fl S => .ok fl (f S)
  | _ => .st
/-- try: b / except (a class that isa tells) as the slot i: s -/
def sTryAs (isa : Str → Bool) (i : Nat) (b s : Stm) : Stm := fun S => match b S with
  | .ex c fs S1 => if isa c = true then (if i < S1.env.length then outS (fun S => (S.nox).put i .un) (s ((S1.nox).put i (.xc c fs))) else .st) else .ex c fs S1
  | r => r
def sTry (isa : Str → Bool) (b s : Stm) : Stm := fun S => match b S with
  | .ex c fs S1 => if isa c = true then outS MS.nox (s S1.nox) else .ex c fs S1
  | r => r
/-- isa tells which classes the clause takes -/
def Isa (T : Cfg) (K : PySem.W.Frag) (c0 : Value) (isa : Str → Bool) : Prop := ∀ c C, T.cls c = some C → PySem.W.exmOne K (.ref C) c0 = some (isa c)
/-- T in a suite -/
abbrev Su.sui (T : Su) (a : Addr) (cls : Value) (d : Option Addr) : Su := ⟨⟨T.toCfg, fun a' cls' d' => a' = a ∧ cls' = cls ∧ d' = d⟩, fun _ _ _ _ => False⟩
section
variable {X : Cx} {T : Su} {x n : Str} {c0 : Value} {i : Nat} {body suite : List Stmt} {b₀ : Stmt} {np pos pos' : Pos} {b s : Stm} {isa : Str → Bool}
theorem y_tryAs (hK : T.K = X.K) (hs : X.stack = X.env :: X.outer) (hf : X.env.frame = some X.env.locals) (hN : X.N.Nodup) (hi : X.N[i]? = some n) (hln : X.env.kindOf n = some .local) (hc : Names X x c0) (tk : Takes X T.W) (hisa : Isa T.toCfg X.K c0 isa)
    (hb : ∀ (W : WX) (pn : List (Addr × Obj)) (xe : Value → Shared → Prop), Takes (X.tr pn xe) W → PassesOwn (model X.prog X.w) X.A X.env xe → PSs (X.tr pn xe) body (TSm { T with W := W } b))
    (hsu : ∀ (a : Addr) (oe : Obj) (cls : Value) (d : Option Addr) (pn : List (Addr × Obj)), Zc cls d oe → (∃ vs, oe.data = .fields vs) → PSs (X.suite a ((a, oe) :: pn)) (b₀ :: suite) (TSm (T.sui a cls d) s)) :
    PS X (.Try body [.ExceptHandler (some (.Name x np)) (some n) (b₀ :: suite) pos'] [] [] pos) (TSm T (sTryAs isa i b s)) :=
  psI (ps_try_as (tb := fun W => TSm { T with W := W } b) (ts := fun a cls d => TSm (T.sui a cls d) s) hs hf hN hi hln hc tk hb hsu) fun D σ H ⟨S, B, rl, h⟩ => by
    refine ⟨S, B, rl, ?_⟩
    unfold sTryAs at h
    cases e : b S with
    | st => rw [e] at h; exact h.elim
    | ok fl S1 => rw [e] at h; cases fl <;> exact h
    | ex c fs S1 =>
      rw [e] at h
      have h : PostS T B D (if isa c = true then (if i < S1.env.length then outS (fun S => (S.nox).put i .un) (s ((S1.nox).put i (.xc c fs))) else .st) else .ex c fs S1) := h
      intro C d σ' H' B' hC hx r l
      refine ⟨isa c, hisa c C hC, fun t a na => ?_, fun f => ?_⟩
      · rw [if_pos t] at h
        by_cases hi : i < S1.env.length
        · rw [if_pos hi] at h
          refine ⟨(S1.nox).put i (.xc c fs), B', Rl.caught r hi hC ⟨rfl, rfl, rfl⟩ hx, ?_⟩
          have h := PostS.le h l
          cases e2 : s ((S1.nox).put i (.xc c fs)) with
          | st => rw [e2] at h; exact h.elim
          | ex _ _ _ => rw [e2] at h; exact h.elim
          | ok fl S2 =>
            rw [e2] at h
            cases fl with
            | nx => exact fun σ2 H2 B2 r2 l2 => h _ H2 B2 ((r2.nox (Z' := T.Z)).unset i none) l2
            | bk => exact fun σ2 H2 B2 r2 l2 => h _ H2 B2 ((r2.nox (Z' := T.Z)).unset i none) l2
            | ct => exact fun σ2 H2 B2 r2 l2 => h _ H2 B2 ((r2.nox (Z' := T.Z)).unset i none) l2
            | rt v => exact fun u σ2 H2 B2 r2 l2 q2 => h u _ H2 B2 ((r2.nox (Z' := T.Z)).unset i none) l2 q2
        · rw [if_neg hi] at h; exact h.elim
      · rw [if_neg (by rw [f]; decide)] at h
        exact h C d σ' H' B' hC hx r l
theorem y_try (hK : T.K = X.K) (hs : X.stack = X.env :: X.outer) (hf : X.env.frame = some X.env.locals) (hc : Names X x c0) (tk : Takes X T.W) (hisa : Isa T.toCfg X.K c0 isa)
    (hb : ∀ (W : WX) (pn : List (Addr × Obj)) (xe : Value → Shared → Prop), Takes (X.tr pn xe) W → PassesOwn (model X.prog X.w) X.A X.env xe → PSs (X.tr pn xe) body (TSm { T with W := W } b))
    (hsu : ∀ (a : Addr) (oe : Obj) (cls : Value) (d : Option Addr) (pn : List (Addr × Obj)), Zc cls d oe → (∃ vs, oe.data = .fields vs) → PSs (X.suite a ((a, oe) :: pn)) (b₀ :: suite) (TSm (T.sui a cls d) s)) :
    PS X (.Try body [.ExceptHandler (some (.Name x np)) none (b₀ :: suite) pos'] [] [] pos) (TSm T (sTry isa b s)) :=
  psI (ps_try_only (tb := fun W => TSm { T with W := W } b) (ts := fun a cls d => TSm (T.sui a cls d) s) hs hf hc tk hb hsu) fun D σ H ⟨S, B, rl, h⟩ => by
    refine ⟨S, B, rl, ?_⟩
    unfold sTry at h
    cases e : b S with
    | st => rw [e] at h; exact h.elim
    | ok fl S1 => rw [e] at h; cases fl <;> exact h
    | ex c fs S1 =>
      rw [e] at h
      have h : PostS T B D (if isa c = true then outS MS.nox (s S1.nox) else .ex c fs S1) := h
      intro C d σ' H' B' hC hx r l
      refine ⟨isa c, hisa c C hC, fun t a na => ?_, fun f => ?_⟩
      · rw [if_pos t] at h
        refine ⟨S1.nox, B', Rl.nox r, ?_⟩
        have h := PostS.le h l
        cases e2 : s S1.nox with
        | st => rw [e2] at h; exact h.elim
        | ex _ _ _ => rw [e2] at h; exact h.elim
        | ok fl S2 =>
          rw [e2] at h
          cases fl with
          | nx => exact fun σ2 H2 B2 r2 l2 => h _ H2 B2 (r2.nox (Z' := T.Z)) l2
          | bk => exact fun σ2 H2 B2 r2 l2 => h _ H2 B2 (r2.nox (Z' := T.Z)) l2
          | ct => exact fun σ2 H2 B2 r2 l2 => h _ H2 B2 (r2.nox (Z' := T.Z)) l2
          | rt v => exact fun u σ2 H2 B2 r2 l2 q2 => h u _ H2 B2 (r2.nox (Z' := T.Z)) l2 q2
      · rw [if_neg (by rw [f]; decide)] at h
        exact h C d σ' H' B' hC hx r l
end

/-! ### e.f in a suite -/
def eXf (i : Nat) (c f : Str) : Exp := fun S => match S.env[i]? with
  | some (.xc c' fs) => if c' = c then liftO S (fs.lookup f) else .st
  | _ => .st
theorem RepF.get {T : Cfg} {B : Bd} {f : Str} : ∀ {fs : List (Str × D)} {vs : List (Str × V)} {d : D}, RepF T B fs vs → fs.lookup f = some d → ∃ v, vs.lookup f = some v ∧ Rep T B d v
  | _, _, _, .nil, e => by cases e
  | _, _, d, .cons (f := g) a b, e => by
    rw [List.lookup_cons] at e
    rw [List.lookup_cons]
    cases h : f == g with
    | true => rw [h] at e; cases e; exact ⟨_, rfl, a⟩
    | false => rw [h] at e; exact b.get e
theorem r_xf {X : Cx} {T : Su} {i : Nat} {x c f : Str} {C : Addr} {a : Addr} {oe : Obj} {cls : Value} {d : Option Addr} {pn : List (Addr × Obj)} {pos pos' : Pos} (hC : T.cls c = some C) (tx : XfC X.K C) (hno : PySem.W.findIn X.K (.ref C) f = some none)
    (hz : Zc cls d oe) (hf : ∃ vs, oe.data = .fields vs) (hN : X.N[i]? = some x) (hv : Vis X.env.scope x) (hd : (x == ("__debug__" : Str)) = false := by decide) (hcd : (x == ("__classdict__" : Str)) = false := by decide)
    (hb : attributeBase (.Name x pos') f X.env (eval (.Name x pos') X.env) = eval (.Name x pos') X.env := by rfl) :
    PE (X.suite a ((a, oe) :: pn)) (.Attribute (.Name x pos') f pos) (TEm (T.sui a cls d) (eXf i c f)) := peI (pe_xf tx hno hz hf (pe_var (X := X.suite a ((a, oe) :: pn)) hN hv hd hcd) hb) fun σ H Q ⟨S, B, rl, h⟩ => by
  unfold eXf at h
  cases e : S.env[i]? with
  | none => rw [e] at h; exact h.elim
  | some s =>
    rw [e] at h
    have x0 := rl.sl i s e
    cases s <;> first | exact h.elim | skip
    rename_i c' fs
    have h : PostR (T.sui a cls d) σ B (RelD (T.sui a cls d)) Q (if c' = c then liftO S (fs.lookup f) else .st) := h
    by_cases ec : c' = c
    · subst ec
      rw [if_pos rfl] at h
      obtain ⟨dd, ed, k⟩ := liftO_post h
      obtain ⟨a', C', d', ea, hC', ⟨ha, hcls, hd'⟩, hx⟩ := x0
      subst ha
      rw [show T.cls c' = some C from hC] at hC'
      cases hC'
      subst hd'
      rcases hx with ⟨hx, _⟩ | ⟨dx, vs, edx, hg, rf⟩
      · subst hx; cases ed
      · obtain ⟨v, ev, rv⟩ := rf.get ed
        refine ⟨.ref a', ea, rfl, hcls.symm, dx, vs, v, edx, ?_, ev, k v H B rl .rfl' rv⟩
        exact (rl.g dx _ hg).ex rfl
    · rw [if_neg ec] at h; exact h.elim

/-! ### repr -/
def reprO (d : D) : Option D := if d.ok 60 = true ∧ d.py.showable = true ∧ d.py.hasDict = false ∧ d.py.depth ≤ 60 ∧ d.py.shown.length ≤ sizeLine then some (.str d.py.shown) else none
def rRepr (K : PySem.W.Frag) : List V → Hp → VK → Prop := fun xs H Q => ∃ v d, xs = [v] ∧ Dp K H v d ∧ d.showable = true ∧ d.hasDict = false ∧ d.depth ≤ 60 ∧ d.shown.length ≤ sizeLine ∧ Q (.str d.shown) H
theorem call_reprM {X : Cx} (hgd : X.A.guards = some []) (hu : X.A.units + 62 < cLine) : CallR X (.builtin "repr") (rRepr X.K) := by
  intro pins s σ H xs us Q I r h
  obtain ⟨v, d, rfl, dp, h1, h2, h3, h4, q⟩ := h
  obtain ⟨u, rfl, rv⟩ := vals1 r
  obtain ⟨as, rd⟩ := Dp.reads I d v u dp rv
  have rd' := rd
  cases rd with
  | none => exact PySem.P.repr_of_none ⟨.str _, H, I.tok _, ⟨_, rfl⟩, q⟩
  | bool b => exact PySem.P.repr_of_bool ⟨.str _, H, I.tok _, ⟨_, rfl⟩, q⟩
  | int i t => exact PySem.P.repr_of_int (by simpa [PyData.showable] using h1) ⟨.str _, H, I.tok _, ⟨_, rfl⟩, q⟩
  | str x t => exact PySem.P.repr_of_str ⟨.str _, H, I.tok _, ⟨_, rfl⟩, q⟩ h4
  | _ =>
    refine repr_of_reads' rd' h1 (fun z => by rw [h2] at z; cases z) hgd (by omega) (fun b o e => e) (fun h' u tk hk => ?_) h4
    exact ⟨.str _, H, I.kept (t' := tk) hk, ⟨_, rfl⟩, q⟩
end Mir
set_option maxHeartbeats 2000000
/-! Mir13: own errors over ValueError whose __init__ says super().__init__(..), then stores its arguments. -/
namespace Mir
open PySem PySem.Spec PyProof.Rows L2 PySem.W PySem.HandSPX

/-! ### the text of such an __init__: one field, two -/
def eA1 (n1 : Str) (p1 p2 : Pos) : Arguments := { posonlyargs := [], args := [{ arg := "self", annotation := none, pos := p1 }, { arg := n1, annotation := none, pos := p2 }], vararg := none, kwonlyargs := [], kw_defaults := [], kwarg := none, defaults := [] }
def eA2 (n1 n2 : Str) (p1 p2 p3 : Pos) : Arguments := { posonlyargs := [], args := [{ arg := "self", annotation := none, pos := p1 }, { arg := n1, annotation := none, pos := p2 }, { arg := n2, annotation := none, pos := p3 }], vararg := none, kwonlyargs := [], kw_defaults := [], kwarg := none, defaults := [] }
def eSup (as : List Expr) (q0 q1 q2 q4 q5 : Pos) : Stmt := .Expr (.Call (.Attribute (.Call (.Name "super" q0) [] [] q1) "__init__" q2) as [] q4) q5
def eSet (n : Str) (r1 r2 r3 r4 : Pos) : Stmt := .Assign [.Attribute (.Name "self" r1) n r2] (.Name n r3) r4
def eS1 (n1 : Str) : Scope := { kind := .function, names := [(PySem.Str.ofString "self", .local), (n1, .local), (PySem.Str.ofString "__class__", .free), (PySem.Str.ofString "super", .globalImplicit)], isGenerator := false, isCoroutine := false, more := [] }
def eS2 (n1 n2 : Str) : Scope := { kind := .function, names := [(PySem.Str.ofString "self", .local), (n1, .local), (n2, .local), (PySem.Str.ofString "__class__", .free), (PySem.Str.ofString "super", .globalImplicit)], isGenerator := false, isCoroutine := false, more := [] }

/-- what the written part says of such a class at C -/
structure ErrC (prog : Program) (K : Frag) (mg : Str → Option Value) (C cda cc : Addr) : Prop where
  cls : ∃ nm q N bs bm sn sub ab col dd k0 k1 k2 k3 k5, K.lookup C = some (excClassObj nm q C N bs bm true sn sub ab col dd k0 k1 k2 k3 k5 "ValueError.__new__") ∧ refsVE bm = true
  sa : findIn K (.ref C) "__setattr__" = some (some (.builtin "object.__setattr__"))
  kC : keepIn K (.ref C) = true
  exC : subIn K (.ref C) (.type "BaseException") = some true
  veC : subIn K (.ref C) (.type "ValueError") = some true
  tyC : typeIn K (.ref C) = some (.type "type")
  suC : mroIn K C (.ref C) = some true
  opq : nsIn K cStatics "thirdparty.any" = some none
  sup : mg "super" = none
  along : ks_superIn K C C "__init__" = some (some (.builtin "ValueError.__init__"))
  code : ∃ (ccl : Value) (cdd : Option Addr) (vs : Array Value) (ccs : Array (Option Value)) (file : Str) (tf : Tok), K.lookup cda = some ⟨ccl, cdd, .fields vs, ccs⟩ ∧ vs[2]? = some (.str file tf) ∧ ((prog.main.file : Str) == file) = true
  cell : ∃ (cl : Value) (cld : Option Addr) (csl : Array (Option Value)), K.lookup cc = some ⟨cl, cld, .cell (some (.ref C)), csl⟩
  top : (prog.main.scope.names.lookup ("super" : Str)).isSome = false
/-- .. of its __init__ -/
structure ErrI (K : Frag) (C fI cda cc : Addr) (qual : Str) (pA : Arguments) (pB : List Stmt) (pS : Scope) : Prop where
  iC : findIn K (.ref C) "__init__" = some (some (.ref fI))
  tC : typeIn K (.ref fI) = some (.type "function")
  fn : ∃ (oc : Value) (od : Option Addr) (kV doc pm : Value) (an : Option Addr) (ct : Value) (osl : Array (Option Value)),
    K.lookup fI = some ⟨oc, od, .func (ksFn "__init__" qual pA pB pS .none kV doc pm an (.ref cda) ct cc), osl⟩ ∧ codeIn K (.ref cda) qual = true

section
variable {prog : Program} {w : World} {A : Around} {E : Value → Shared → Prop} {R : Result → Shared → Prop} {s : Shared} {K : Frag} {mg : Str → Option Value} {C fI cda cc : Addr}
theorem excO_of {x : Addr} {C t : Addr} {h : Heap} (e : h.get? x = some (excO C t)) : h.get? x = some (excRec (.ref C) t none .none .none (.bool false)) := e
/-- the call super().__init__(..), as the model runs it -/
def SupCall (env : Env) (q0 q1 q2 q4 : Pos) (es : List Expr) : Prop := ∃ pl : Sem Bool, eval (Expr.Call (Expr.Attribute (Expr.Call (Expr.Name "super" q0) [] [] q1) "__init__" q2) es [] q4) env = (do
      let ov ← attributeBase (Expr.Call (Expr.Name "super" q0) [] [] q1) "__init__" env (eval (Expr.Call (Expr.Name "super" q0) [] [] q1) env)
      standAt q2.atName
      let (f, first) ← holding [ov] (getMethod ov "__init__" pl)
      callWith q4 f first (backTo q4 (starEach es env)) [])
/-- super().__init__(..) -/
theorem err_super {qual : Str} {scope : Scope} {L x t0 : Addr} {m mb : Str → Option Value} {body : List Stmt} {oc : Value} {od : Option Addr} {osl : Array (Option Value)} {fd : FuncData} {ar : Arg} {e : Expr} {es : List Expr} {vs : List Value} {q0 q1 q2 q4 q5 : Pos} {Q : Flow → Shared → Prop}
    (T : ErrC prog K mg C cda cc) (X : K.In s.heap) (hg : s.heap.Ns mainGlobals mg) (hbn : s.heap.Ns builtinsNs mb) (hbb : ∀ x : Str, x ≠ "__name__" → mb x = bootBuiltins x) (hlim : s.heap.NoLimit)
    (hfo : K.lookup fI = some ⟨oc, od, .func fd, osl⟩) (hp : (fd.params.posonlyargs ++ fd.params.args).head? = some ar) (har : ar.arg = "self")
    (hn : s.heap.Ns L m) (hself : m "self" = some (.ref x)) (hx : s.heap.get? x = some (excO C t0))
    (hk : scope.kind = .function) (hks : scope.names.lookup ("super" : Str) = some .globalImplicit) (hkc : scope.names.lookup ("__class__" : Str) = some .free) (hka : scope.names.lookup ("self" : Str) = some .local)
    (hz : vs.length ≤ sizeLine)
    (hev : ∀ s' : Shared, s'.heap.Ns L m → wpAny (model prog w) A (spliced (backTo q4 (starEach (e :: es) (ksEnv qual scope L fI (.ref cda) cc)))) (fun us s'' => us = vs ∧ s'' = s') E s')
    (he : starEach (e :: es) (ksEnv qual scope L fI (.ref cda) cc) = (false, eval e (ksEnv qual scope L fI (.ref cda) cc)) :: starEach es (ksEnv qual scope L fI (.ref cda) cc) := by rfl) (hpl : (backTo q4 (starEach es (ksEnv qual scope L fI (.ref cda) cc))).any (·.1) = false := by rfl)
    (hwhole : SupCall (ksEnv qual scope L fI (.ref cda) cc) q0 q1 q2 q4 (e :: es))
    (hsw : swapsWith (Expr.Call (Expr.Attribute (Expr.Call (Expr.Name "super" q0) [] [] q1) "__init__" q2) (e :: es) [] q4) none q5.line (ksEnv qual scope L fI (.ref cda) cc) = pure false)
    (hq : ∀ h' t1 tk, (∀ b o, b ≠ x → s.heap.get? b = some o → h'.get? b = some o) → h'.get? x = some (excO C t1) → s.heap.objs.size ≤ h'.objs.size → Q .next { s with heap := h', toks := tk }) :
    PySem.wpAt (model prog w) A (.func body (ksEnv qual scope L fI (.ref cda) cc)) (exec (eSup (e :: es) q0 q1 q2 q4 q5) (ksEnv qual scope L fI (.ref cda) cc)) Q E s := by
  unfold eSup
  obtain ⟨pl, hwhole⟩ := hwhole
  have hi : interactive (ksEnv qual scope L fI (.ref cda) cc) = false := by show (scope.kind == .module && _) = false; rw [hk]; rfl
  refine ks_wpAt_Expr_any ?_ hi hsw
  refine ks_wpAt_MethodCall (pl := pl) ?_ hwhole
  obtain ⟨ccl, cdd, cvs, ccs, file, tf, hcode, hvs, hfile⟩ := T.code
  obtain ⟨cl, cld, csl, hcell⟩ := T.cell
  obtain ⟨nm, qn, N, bs, bm, sn, sub, ab, col, dd, k0, k1, k2, k3, k5, hC, hbm⟩ := T.cls
  have hcd : clsIn K C = some { name := nm, bases := bs, mro := .ref C :: bm, ns := N, qualname := qn, hasDict := true, slotNames := sn, subclasses := sub, abstract := ab, collection := col, hasDel := false } := by unfold clsIn; rw [hC] <;> rfl
  obtain ⟨hp0, g, d, t, os⟩ := s
  refine ks_wpAt_super_base (env := ksEnv qual scope L fI (.ref cda) cc) hks hkc rfl rfl (X _ _ hfo) rfl hp rfl (X _ _ hcode) rfl hvs hfile T.top ?_
  refine ks_loadName_global hk hks (Calls.loadGlobal_builtin (env := ksEnv qual scope L fI (.ref cda) cc) hg T.sup hbn ((hbb _ (by decide +kernel)).trans (by first | boot_by_name | rfl | kernel_rfl)) ⟨rfl, ?_⟩)
  refine wpAny_loadName_free hk hkc rfl ⟨_, X _ _ hcell, rfl⟩ ?_
  rw [har]
  refine wpAny_loadName_local hk hka hn hself ?_
  refine ks_wpAny_isType_cls (X _ _ hC) rfl ⟨rfl, ?_⟩
  refine ks_wpAny_call_super (X _ _ hC) rfl hx rfl (fun c e => by cases e) (looks_mroIn X T.suC) (fun h1 e1 k1 => ?_)
  -- the method of the built-in base, bound
  have X1 : K.In h1 := X.keeps k1
  have hx1 := k1 _ _ hx
  have I1 : InstAt h1 x (excO C t0) C none := ⟨hx1, rfl, rfl, trivial⟩
  have hI : Looks (model prog w) h1 (isInstance (.ref x) (.type "ValueError")) true := I1.type.andThen (looks_subIn X1 T.veC)
  have hal := T.along
  unfold ks_superIn at hal
  rw [hcd] at hal
  have hxC : x ≠ C := ks_ne X1 I1 hcd
  refine kxs_getMethod kxs_ValueError e1 (looks_opaque X1 T.opq) (l₀ := .ref C :: bm) ?_ rfl X1 hal hI hxC rfl ?_
  · exact fun A Q E s k q => wpAny_bind ((looks_clsIn X1 hcd) A _ E s k (wpAny_pure q))
  have k2 : ∀ b o, h1.get? b = some o → (h1.push (kxs_mw "ValueError.__init__" x)).get? b = some o := fun b o e => Heap.get?_push_of_some _ e
  have k12 : ∀ b o, hp0.get? b = some o → (h1.push (kxs_mw "ValueError.__init__" x)).get? b = some o := fun b o e => k2 b o (k1 b o e)
  have hn2 : (h1.push (kxs_mw "ValueError.__init__" x)).Ns L m := hn.keeps k12
  have hu : (h1.push (kxs_mw "ValueError.__init__" x)).get? h1.objs.size = some (kxs_mw "ValueError.__init__" x) := Heap.get?_push_at rfl rfl
  have hx2 := k2 _ _ hx1
  have hC2 := k12 _ _ (X _ _ hC)
  generalize hh2 : h1.push (kxs_mw "ValueError.__init__" x) = h2 at *
  have hev2 := hev ⟨h2, g, d, t + 1, os⟩ hn2
  rw [he] at hev2 ⊢
  refine kxs_callWith (i := "ValueError.__init__") (x := x) (by show (false || (backTo q4 (starEach es _)).any (·.1)) = false; rw [hpl]; rfl) (PySem.Calls.evalArgs_plain ?_)
  refine wpAny_mono hev2 (fun us s3 hus => ?_) fun _ _ z => z
  obtain ⟨rfl, rfl⟩ := hus
  refine ⟨hu, ?_⟩
  refine wpAny_call (codeAny_of_tree ?_)
  show wpAny _ A.in1 (callAny (.ref h1.objs.size) ⟨us, []⟩) _ _ _
  simp only [callAny]
  refine wpAny_bind (wpAny_load hu ?_)
  simp only [kxs_mw, show (Value.type "method-wrapper" == Value.type "method" || Value.type "method-wrapper" == Value.type "builtin_function_or_method" || Value.type "method-wrapper" == Value.type "method-wrapper") = true by decide, if_true]
  refine KFB.if_so (by decide) ?_
  refine wpAny_bind (check_bound_init F.excBase_ValueError.toExcCallFacts hC2 hx2 rfl ?_)
  refine wpAny_bind (wpAny_pure (wpAny_pure ?_))
  refine ⟨plainId_quiet F.excBase_ValueError.init.plain _, codeAny_builtin F.excBase_ValueError.initEntry ?_⟩
  rw [Around.under_plainId F.excBase_ValueError.init.plain _]
  refine exc_init_tree (cls := .ref C) (t0 := t0) (dv := none) (c2 := .none) (c3 := .none) (b4 := .bool false) hx2 hz fun h3 k3 e3 t3 => ?_
  refine hq h3 h2.objs.size _ (fun b o hb e => k3 b o hb (k12 b o e)) e3 ?_
  exact Nat.le_of_lt (Nat.lt_trans (show hp0.objs.size < h1.objs.size from Heap.lt_size e1) (Nat.lt_trans (Heap.lt_size hu) (Heap.lt_size t3)))

theorem one_size (v : Value) : [v].length ≤ sizeLine := by
  rw [sizeLine_eq]
  exact (by decide : 1 ≤ 16777216)
theorem two_size (v u : Value) : [v, u].length ≤ sizeLine := by
  rw [sizeLine_eq]
  exact (by decide : 2 ≤ 16777216)
/-- a local's value -/
theorem ldX {M : Model} {A : Around} {E : Value → Shared → Prop} {s : Shared} {qual : Str} {scope : Scope} {L a : Addr} {cd : Value} {cc : Addr} {m : Str → Option Value} {x : Str} {pos : Pos} {v : Value} {Q : Value → Shared → Prop} (hn : s.heap.Ns L m) (hv : m x = some v) (h : Q v s)
    (hk : scope.kind = .function) (hl : scope.names.lookup x = some .local) (hd : (x == ("__debug__" : Str)) = false) : wpAny M A (eval (.Name x pos) (ksEnv qual scope L a cd cc)) Q E s := wpAny_Name (wpAny_loadName_local hk hl hn hv h) hd
/-- the names of such an __init__ are told apart -/
def Plain (n : Str) : Prop := n ≠ "self" ∧ n ≠ "super" ∧ n ≠ "__class__" ∧ (n == ("__debug__" : Str)) = false
instance (n : Str) : Decidable (Plain n) := by unfold Plain; infer_instance
theorem look_ne {α : Type} {x y : Str} {k : α} {l : List (Str × α)} (h : y ≠ x) : ((y, k) :: l).lookup x = l.lookup x := by
  rw [List.lookup_cons, show (x == y) = false from by simpa using fun e => h e.symm]
theorem look_eq {α : Type} {x : Str} {k : α} {l : List (Str × α)} : ((x, k) :: l).lookup x = some k := by
  rw [List.lookup_cons, show (x == x) = true from by simp]
theorem err_init1 {qual n1 : Str} {x t0 : Addr} {v : Value} {mb : Str → Option Value} {p1 p2 q0 q1 q2 q3 q4 q5 r1 r2 r3 r4 : Pos} (T : ErrC prog K mg C cda cc) (TI : ErrI K C fI cda cc qual (eA1 n1 p1 p2) [eSup [.Name n1 q3] q0 q1 q2 q4 q5, eSet n1 r1 r2 r3 r4] (eS1 n1)) (hn1 : Plain n1)
    {ar : Args} (hba : ∀ (kV doc pm : Value) (an : Option Addr) (ct : Value), bindArgs (ksFn "__init__" qual (eA1 n1 p1 p2) [eSup [.Name n1 q3] q0 q1 q2 q4 q5, eSet n1 r1 r2 r3 r4] (eS1 n1) .none kV doc pm an (.ref cda) ct cc) ar = pure [(("self" : Str), .ref x), (n1, v)]) (hsc : ∀ L : Addr, SupCall (ksEnv qual (eS1 n1) L fI (.ref cda) cc) q0 q1 q2 q4 [.Name n1 q3]) (hno : findIn K (.ref C) n1 = some none)
    (X : K.In s.heap) (hg : s.heap.Ns mainGlobals mg) (hbn : s.heap.Ns builtinsNs mb) (hbb : ∀ x : Str, x ≠ "__name__" → mb x = bootBuiltins x) (hlim : s.heap.NoLimit) (hx : s.heap.get? x = some (excO C t0)) (hnx : K.lookup x = none) (hxg : x ≠ mainGlobals ∧ x ≠ builtinsNs) (hroom : A.depth < recursionLimit)
    (hq : ∀ h' tk dx t1, (∀ b o, b ≠ x → s.heap.get? b = some o → h'.get? b = some o) → s.heap.objs.size ≤ dx → dx ≠ x → h'.get? x = some { cls := .ref C, dict := some dx, data := .fields #[.ref t1, .none, .none, .none, .bool false, .none] } →
      h'.Ns1 dx (fun y => if y = n1 then some v else none) → R (.ok (.ret .none)) { s with heap := h', toks := tk }) :
    codeAny (model prog w) A (.call (.ref fI) ar) R s := by
  obtain ⟨oc, od, kV, doc, pm, an, ct, osl, ho, hcd⟩ := TI.fn
  obtain ⟨nm, qn, N, bs, bm, sn, sub, ab, col, dd, k0, k1, k2, k3, k5, hC, hbm⟩ := T.cls
  have hcl : clsIn K C = some { name := nm, bases := bs, mro := .ref C :: bm, ns := N, qualname := qn, hasDict := true, slotNames := sn, subclasses := sub, abstract := ab, collection := col, hasDel := false } := by unfold clsIn; rw [hC] <;> rfl
  obtain ⟨d1, d2, d3, d4⟩ := hn1
  have lself : (eS1 n1).names.lookup ("self" : Str) = some .local := look_eq
  have ln1 : (eS1 n1).names.lookup n1 = some .local := by show (_ :: (n1, _) :: _ : List (Str × NameKind)).lookup n1 = _; rw [look_ne (fun e => d1 e.symm)]; exact look_eq
  have lcls : (eS1 n1).names.lookup ("__class__" : Str) = some .free := by
    show ((PySem.Str.ofString "self", _) :: (n1, _) :: (PySem.Str.ofString "__class__", _) :: _ : List (Str × NameKind)).lookup (PySem.Str.ofString "__class__") = _
    rw [look_ne (by decide), look_ne d3]; exact look_eq
  have lsup : (eS1 n1).names.lookup ("super" : Str) = some .globalImplicit := by
    show ((PySem.Str.ofString "self", _) :: (n1, _) :: (PySem.Str.ofString "__class__", _) :: (PySem.Str.ofString "super", _) :: _ : List (Str × NameKind)).lookup (PySem.Str.ofString "super") = _
    rw [look_ne (by decide), look_ne d2, look_ne (by decide)]; exact look_eq
  refine ks_codeAny_call_defAt (fd := ksFn "__init__" qual (eA1 n1 p1 p2) [eSup [.Name n1 q3] q0 q1 q2 q4 q5, eSet n1 r1 r2 r3 r4] (eS1 n1) .none kV doc pm an (.ref cda) ct cc) (binds := [(("self" : Str), .ref x), (n1, v)]) hroom (X _ _ ho) rfl hlim (codeRec_of X hcd) rfl (BindsTo.of_eq (hba kV doc pm an ct)) ?_ ?_ (fun h₁ hns hk₁ => ?_) rfl rfl rfl
  · intro y hy
    have hy : y ∈ (eS1 n1).names := hy
    simp only [eS1, List.mem_cons, List.not_mem_nil, or_false] at hy
    rcases hy with rfl | rfl | rfl | rfl <;> (intro z; cases z)
  · intro y hy
    simp only [List.mem_cons, List.not_mem_nil, or_false] at hy
    rcases hy with rfl | rfl
    · exact lself
    · exact ln1
  have X₁ : K.In h₁ := X.keeps hk₁
  have hx₁ := hk₁ _ _ hx
  have hxL : s.heap.objs.size ≠ x := Nat.ne_of_gt (Heap.lt_size hx)
  have mself : ([(("self" : Str), Value.ref x), (n1, v)] : List (Str × Value)).reverse.lookup ("self" : Str) = some (.ref x) := by
    show ([(n1, v), (("self" : Str), Value.ref x)] : List (Str × Value)).lookup ("self" : Str) = _
    rw [look_ne d1]; exact look_eq
  have mn1 : ([(("self" : Str), Value.ref x), (n1, v)] : List (Str × Value)).reverse.lookup n1 = some v := look_eq
  show PySem.wpAt _ (A.deeper (ksEnv qual (eS1 n1) s.heap.objs.size fI (.ref cda) cc)) (.func _ (ksEnv qual (eS1 n1) s.heap.objs.size fI (.ref cda) cc)) (execs _ (ksEnv qual (eS1 n1) s.heap.objs.size fI (.ref cda) cc)) _ _ _
  refine ks_wpAt_execs_cons (err_super (m := fun y => ([(("self" : Str), Value.ref x), (n1, v)] : List (Str × Value)).reverse.lookup y) (vs := [v]) T X₁ (hg.keeps hk₁) (hbn.keeps hk₁) hbb (hlim.keeps hk₁) ho rfl rfl hns mself hx₁ rfl lsup lcls lself (one_size v) (fun s' hn' => ?_) (by rfl) (by rfl) (hsc _) (by rfl) ?_)
  · exact PySem.Calls.spliced_cons (ldX hn' mn1 (PySem.Calls.spliced_nil ⟨rfl, rfl⟩) rfl ln1 d4)
  · intro h2 t1 tk2 kk hx2 hsz
    have kx : ∀ b o, s.heap.get? b = some o → b ≠ x → h2.get? b = some o := fun b o e hb => kk b o hb (hk₁ b o e)
    have X₂ : K.In h2 := fun a o e => kk a o (fun z => by rw [z, hnx] at e; cases e) (X₁ a o e)
    have hn2 : h2.Ns s.heap.objs.size (fun y => ([(("self" : Str), Value.ref x), (n1, v)] : List (Str × Value)).reverse.lookup y) := by
      obtain ⟨o, es, ep, e1, e2, e3⟩ := hns
      exact ⟨o, es, ep, kk _ _ hxL e1, e2, e3⟩
    show PySem.wpAt _ _ _ (execs [eSet n1 r1 r2 r3 r4] _) _ _ _
    refine wpAt_of_wpAny (wpAny_execs_cons (plainObj_wpAny_Assign_Attribute (ldX hn2 mn1 (ldX hn2 mself ?_ rfl lself (by decide)) rfl ln1 d4)))
    refine set_plain X₂ (ox := excO C t1) (od := none) ⟨hx2, rfl, rfl, trivial⟩ T.sa ?_
    refine exc_osa X₂ hx2 hcl (show refsVE (.ref C :: bm) = true from hbm) rfl hno (fun h₃ tk₃ dx k₃ dn dne hx₃ hn₃ => ?_)
    refine wpAny_execs_nil (hq h₃ tk₃ dx t1 (fun b o hb e => k₃ b o hb (kx b o e hb)) (Nat.le_trans ?_ dn) dne hx₃ hn₃)
    have := hns.lt
    exact Nat.le_trans (Nat.le_of_lt this) hsz

/-- what lies there when it is made -/
structure ErrMade (h h' : Heap) (e C d : Addr) (m : Str → Option Value) : Prop where
  keep : ∀ b o, h.get? b = some o → h'.get? b = some o
  new : h.objs.size ≤ e
  obj : ∃ oe vs, h'.get? e = some oe ∧ oe.cls = .ref C ∧ oe.dict = some d ∧ oe.data = .fields vs ∧ vs[1]? = some .none
  dbig : h.objs.size ≤ d
  dne : d ≠ e
  ns : h'.Ns1 d m
theorem err_made1 {qual n1 : Str} {v : Value} {mb : Str → Option Value} {p1 p2 q0 q1 q2 q3 q4 q5 r1 r2 r3 r4 : Pos} (T : ErrC prog K mg C cda cc) (TI : ErrI K C fI cda cc qual (eA1 n1 p1 p2) [eSup [.Name n1 q3] q0 q1 q2 q4 q5, eSet n1 r1 r2 r3 r4] (eS1 n1)) (hn1 : Plain n1)
    (hba : ∀ (kV doc pm : Value) (an : Option Addr) (ct x v : Value), bindArgs (ksFn "__init__" qual (eA1 n1 p1 p2) [eSup [.Name n1 q3] q0 q1 q2 q4 q5, eSet n1 r1 r2 r3 r4] (eS1 n1) .none kV doc pm an (.ref cda) ct cc) ⟨[x, v], []⟩ = pure [(("self" : Str), x), (n1, v)]) (hsc : ∀ L : Addr, SupCall (ksEnv qual (eS1 n1) L fI (.ref cda) cc) q0 q1 q2 q4 [.Name n1 q3]) (hno : findIn K (.ref C) n1 = some none)
    (X : K.In s.heap) (hg : s.heap.Ns mainGlobals mg) (hbn : s.heap.Ns builtinsNs mb) (hbb : ∀ x : Str, x ≠ "__name__" → mb x = bootBuiltins x) (hlim : s.heap.NoLimit) (hroom : A.depth + 1 < recursionLimit)
    (hq : ∀ h' tk e d, ErrMade s.heap h' e C d (fun y => if y = n1 then some v else none) → R (.ok (.ret (.ref e))) { s with heap := h', toks := tk }) :
    codeAny (model prog w) A (.call (.ref C) ⟨[v], []⟩) R s := by
  obtain ⟨nm, q, N, bs, bm, sn, sub, ab, col, dd, k0, k1, k2, k3, k5, hC, hbm⟩ := T.cls
  obtain ⟨hp, g, dr, tk, os⟩ := s
  have k : ∀ b o, hp.get? b = some o → ((hp.push (kdv_tup [v])).push (excO C hp.objs.size)).get? b = some o := fun b o e => Heap.get?_push_of_some _ (Heap.get?_push_of_some _ e)
  have hget : ((hp.push (kdv_tup [v])).push (excO C hp.objs.size)).get? (hp.objs.size + 1) = some (excO C hp.objs.size) := by heap_get
  have hnx : K.lookup (hp.objs.size + 1) = none := by
    cases e : K.lookup (hp.objs.size + 1) with
    | none => rfl
    | some o =>
      have z : hp.get? (hp.objs.size + 1) = some o := X _ _ e
      exact absurd (Nat.lt_of_succ_lt (Heap.lt_size z)) (Nat.lt_irrefl _)
  have nsx : ∀ {b : Addr} {m : Str → Option Value}, hp.Ns b m → hp.objs.size + 1 ≠ b := fun hb z => by have := hb.lt; rw [← z] at this; exact absurd (Nat.lt_of_succ_lt this) (Nat.lt_irrefl _)
  refine call_own F.excBase_ValueError (fun X => refsVE_contains X bm hbm) (X _ _ hC) (looks_findIn X TI.iC) (fun self => bind_fn X self TI.tC) (one_size v) ?_
  refine err_init1 (s := ⟨(hp.push (kdv_tup [v])).push (excO C hp.objs.size), g, dr, tk, os⟩) T TI hn1 (fun kV doc pm an ct => hba kV doc pm an ct _ _) hsc hno (X.keeps k) (hg.keeps k) (hbn.keeps k) hbb (hlim.keeps k) hget hnx ⟨nsx hg, nsx hbn⟩ ?_ fun h' tk' dx t1 k' dn dne hx hns => ?_
  · show A.depth + 1 < recursionLimit
    exact hroom
  · have old : ∀ b o, hp.get? b = some o → h'.get? b = some o := fun b o e => k' b o (Nat.ne_of_lt (Nat.lt_succ_of_lt (Heap.lt_size e))) (k b o e)
    have z : hp.objs.size + 1 + 1 ≤ dx := by
      first
        | (simpa only [Heap.size_push] using dn)
        | exact dn
        | (have q := dn; rw [Heap.size_push, Heap.size_push] at q; exact q)
    exact ⟨rfl, hq h' tk' (hp.objs.size + 1) dx ⟨old, Nat.le_succ _, ⟨_, _, hx, rfl, rfl, rfl, rfl⟩, Nat.le_trans (Nat.le_trans (Nat.le_succ _) (Nat.le_succ _)) z, dne, hns⟩⟩
end
section
variable {X : Cx} {C fI cda cc : Addr}
theorem relO_one {n : Str} {v : V} {v' : Value} (r : RelV v v') (f : Str) : RelO (List.lookup f [(n, v)]) (if f = n then some v' else none) := by
  by_cases h : f = n
  · subst h
    rw [if_pos rfl]
    show RelO (([(f, v)] : List (Str × V)).lookup f) _
    rw [look_eq]; exact r
  · rw [if_neg h]
    rw [look_ne (fun e => h e.symm)]
    trivial
/-- C(e): an error of one field -/
theorem pmk_err1 {x qual n1 : Str} {a : Expr} {ta : TA} {p pos : Pos} {k : Nat} {p1 p2 q0 q1 q2 q3 q4 q5 r1 r2 r3 r4 : Pos} (T : ErrC X.prog X.K X.mg C cda cc) (TI : ErrI X.K C fI cda cc qual (eA1 n1 p1 p2) [eSup [.Name n1 q3] q0 q1 q2 q4 q5, eSet n1 r1 r2 r3 r4] (eS1 n1)) (hn1 : Plain n1)
    (hba : ∀ (kV doc pm : Value) (an : Option Addr) (ct x v : Value), bindArgs (ksFn "__init__" qual (eA1 n1 p1 p2) [eSup [.Name n1 q3] q0 q1 q2 q4 q5, eSet n1 r1 r2 r3 r4] (eS1 n1) .none kV doc pm an (.ref cda) ct cc) ⟨[x, v], []⟩ = pure [(("self" : Str), x), (n1, v)]) (hsc : ∀ L : Addr, SupCall (ksEnv qual (eS1 n1) L fI (.ref cda) cc) q0 q1 q2 q4 [.Name n1 q3]) (hno : findIn X.K (.ref C) n1 = some none)
    (hr : Room k X.A) (hg : Gl X x) (hm : X.mg x = some (.ref C)) (ha : PA X [a] ta) (hdb : (x == ("__debug__" : Str)) = false := by decide)
    (he : starEach (a :: []) X.env = (false, eval a X.env) :: starEach [] X.env := by rfl) (hpl : (backTo pos (starEach [] X.env)).any (·.1) = false := by rfl) :
    PMk X (.Call (.Name x p) [a] [] pos) (tMkF C [n1] ta) := by
  intro pins s σ H Q I h
  refine wpAny_Call_Name_kw (ld_glob I hg hm ?_ hdb)
  refine PySem.W.callWith_K (h₀ := X.base) I.ok.mod.kin T.kC (thn (ha.run pos pins s σ H _ I h) fun us s1 hh => ?_) he hpl
  obtain ⟨vs, H1, I1, r1, hl, q1⟩ := hh
  refine ⟨I1.kIn, ?_⟩
  cases r1 with
  | nil => cases hl
  | cons rv rn =>
    rename_i v v' vs' us'
    cases rn with
    | cons _ _ => cases hl
    | nil =>
      show wpAny _ _ (PySem.call (.ref C) [v']) _ _ _
      have hlim := I1.nolimit
      have hgl : s1.heap.Ns mainGlobals X.mg := I1.ok.mod.glob.keeps I1.bk
      obtain ⟨mb, hb1, hb2⟩ := I1.ok.mod.blt
      have hbn := hb1.keeps I1.bk
      obtain ⟨hp, g, dr, tk, os⟩ := s1
      refine wpAny_call (err_made1 T TI hn1 hba hsc hno I1.kIn hgl hbn hb2 hlim (by have := hr.dp; omega) fun h' tk' e d M => ?_)
      show MkP X pins σ Q (.ref e) ⟨h', g, dr, tk', os⟩
      obtain ⟨oe, fv, hoe, hc, hd, hdat, h1⟩ := M.obj
      have hns := M.ns
      obtain ⟨G', g1, g2⟩ := restrict h' fun b => decide (b ≠ e)
      have gk : ∀ b, b ≠ e → G'.get? b = h'.get? b := fun b hb => g1 b (decide_eq_true hb)
      have ge : G'.get? e = none := g2 e (by simp)
      have old : ∀ b o, hp.get? b = some o → G'.get? b = some o := fun b o q => (gk b (Nat.ne_of_lt (Nat.lt_of_lt_of_le (Heap.lt_size q) M.new))).trans (M.keep b o q)
      have ob : ObjOk X.prog X.w (upd H1 d (.xd [(n1, v)])) G' d (.xd [(n1, v)]) := ⟨_, hns.at (fun o q => (gk d M.dne).trans q), fun f => relO_one rv f⟩
      have J : Inv X pins σ (upd H1 d (.xd [(n1, v)])) ⟨G', g, dr, tk', os⟩ := I1.laid (t' := tk') old M.dbig ob
      refine ⟨e, oe, fv, ⟨G', g, dr, tk', os⟩, _, .ref C, some d, rfl, J, fun b o q => ?_, ge, hoe, ⟨hc, hd⟩, hdat, h1, ?_, rfl, I1.bare, raises_own T.exC T.tyC, q1 d (I1.hok.fresh M.dbig)⟩
      · by_cases hb : b = e
        · have q' : G'.get? b = some o := q
          rw [hb, ge] at q'; cases q'
        · exact (gk b hb).symm.trans q
      · rw [upd_ne (Ne.symm M.dne)]
        exact I1.hok.fresh M.new
end
end Mir
/-! Mir14: the end of a law. -/
namespace Mir
open PySem PySem.Spec PyProof.Rows L2

/-- the script alone is tracked -/
def scrH (K : PySem.W.Frag) (a : Addr) (vs : List Value) (ns : List Int) : Hp := fun b => if b = a ∧ K.lookup a = none then some (.frz { cls := .type "list", data := .seq vs.toArray } (.lst (ns.map V.int))) else none
theorem scrH_some {K : PySem.W.Frag} {a b : Addr} {vs : List Value} {ns : List Int} {u : HO} (h : scrH K a vs ns b = some u) : b = a ∧ K.lookup a = none ∧ u = .frz { cls := .type "list", data := .seq vs.toArray } (.lst (ns.map V.int)) := by
  unfold scrH at h
  by_cases c : b = a ∧ K.lookup a = none
  · rw [if_pos c] at h; cases h; exact ⟨c.1, c.2, rfl⟩
  · rw [if_neg c] at h; cases h
section
variable {P : Program} {w : World} {K : PySem.W.Frag} {mg mb : Str → Option Value} {k : Nat} {fa a : Addr} {fd : FuncData} {x : Str} {T : Cfg} {f : Fn} {s₁ : Shared} {vs : List Value} {ns : List Int}
theorem law_end (hT : T.K = K) (KX : K.In s₁.heap) (hns : s₁.heap.Ns mainGlobals mg) (hb : s₁.heap.Ns builtinsNs mb) (hbb : ∀ x : Str, x ≠ "__name__" → mb x = bootBuiltins x) (hlim : s₁.heap.NoLimit) (hg : s₁.gens = #[])
    (ha : s₁.heap.get? a = some { cls := .type "list", data := .seq vs.toArray }) (hi : IntsAre vs ns) (hl : ns.length ≤ sizeLine) (hr : Room k callerA)
    (F : ∀ base : Heap, K.In base → base.Ns mainGlobals mg → FnG P w K mg base k fa fd [x] (spM T f 1)) (hbind : ∀ (s : Shared) (u : Value), BindsTo s fd ⟨[u], []⟩ [(x, u)])
    (hlaw : ∃ S, f [.scr ns] [] = .ok (.bl true) S) :
    codeAny (model P w) callerA (.call (.ref fa) ⟨[.ref a], []⟩) (fun r s' => r = .ok (.ret (.bool true)) ∧ OldK s₁.heap s'.heap ∧ s'.os = s₁.os ∧ AllBare s'.gens) s₁ := by
  have lv : (ns.map V.int).length = vs.length := (vals_ints hi).length
  -- the script is a list of ints
  have hS : SqL K (scrH K a vs ns) a (ns.map V.int) := by
    cases e : K.lookup a with
    | none => exact .inl (.inr ⟨_, if_pos ⟨rfl, e⟩⟩)
    | some o =>
      have q := KX a o e
      rw [ha] at q; cases q
      exact .inr ⟨_, vs.toArray, _, e, rfl, rfl, rfl, by rw [List.size_toArray, ← lv, List.length_map]; exact hl, by simpa using vals_ints hi⟩
  have hok : HOk P w (scrH K a vs ns) s₁.heap := fun b u z => by
    obtain ⟨rfl, _, rfl⟩ := scrH_some z
    exact ⟨ha, by rw [List.length_map]; exact hl, vs, _, vals_ints hi, ha⟩
  -- the base: all but the script
  have of_base : ∀ {b : Addr} {o : Obj}, s₁.heap.get? b = some o → (b = a → K.lookup a ≠ none) → (hidT s₁.heap (scrH K a vs ns)).get? b = some o := fun {b o} e n => hidT_get e (by
    cases q : scrH K a vs ns b with
    | none => rfl
    | some u => obtain ⟨h1, h2, _⟩ := scrH_some q; exact absurd h2 (n h1))
  have nsK : ∀ {b : Addr} {m : Str → Option Value}, s₁.heap.Ns b m → (hidT s₁.heap (scrH K a vs ns)).Ns b m := fun {b m} ⟨o, es, ep, e, d, r⟩ => ⟨o, es, ep, of_base e (fun z => by subst z; rw [ha] at e; cases e; cases d), d, r⟩
  have hKb : K.In (hidT s₁.heap (scrH K a vs ns)) := fun b o e => of_base (KX b o e) fun z => by subst z; rw [e]; exact fun q => by cases q
  have e0 : Env0 P w K mg (hidT s₁.heap (scrH K a vs ns)) callerA [] s₁ (scrH K a vs ns) :=
    ⟨rfl, ⟨hKb, nsK hns, ⟨mb, nsK hb, hbb⟩, let ⟨mc, h1, h2⟩ := hlim; ⟨mc, nsK h1, h2⟩⟩, fun b o e => of_hidT e, Nat.le_of_eq (hidT_size _ _), trivial, fun b hb => (by cases hb), hok, .of_eq hg⟩
  obtain ⟨S, hS2⟩ := hlaw
  have rl : Rl ⟨T, Z0⟩ ⟨[], []⟩ [] (scrH K a vs ns) ⟨scrH K a vs ns, fun _ => none, [], fun _ => false⟩ :=
    ⟨rfl, fun b u e => .inl ⟨rfl, e⟩, fun b e => (by cases e), fun b o e => (by cases e), fun i s e => (by simp at e), rfl, fun n c b e => (by simp at e), fun i b h => absurd h noOwn, fun n c b e => (by simp at e), fun i j b h => absurd h noOwn, List.nodup_nil⟩
  have hsp : spM T f 1 [.ref a] (scrH K a vs ns) (fun v _ => v = .bl true) fun _ _ _ => False := by
    refine ⟨[.scr ns], [], _, rfl, .cons (.scr (by rw [hT]; exact hS)) .nil, rl, ?_⟩
    rw [hS2]
    intro v H' B' _ _ q
    cases q; rfl
  refine codeAny_mono ((F _ hKb (nsK hns)).run callerA [] s₁ _ ⟨[.ref a], []⟩ [.ref a] [.ref a] _ _ hr rfl e0 (hbind s₁ (.ref a)) (.cons rfl .nil) hsp) fun r s' h => ?_
  rcases r with e | fl
  · obtain ⟨_, _, _, _, _, _, _, _, _, _, _, _, z⟩ := h
    exact z.elim
  · cases fl <;> first | exact False.elim h | skip
    obtain ⟨v, H', os, bare, un, hok', r', q⟩ := h
    have q : v = .bl true := q
    subst q
    have r' := r'
    obtain rfl : _ = Value.bool true := r'
    refine ⟨rfl, OldK.of_keep fun b o e => ?_, os, bare⟩
    cases q : scrH K a vs ns b with
    | none => exact un.keep b o e q (by intro z; cases z) (by simp)
    | some u =>
      obtain ⟨rfl, _, rfl⟩ := scrH_some q
      have z2 := un.frzs b _ _ q
      obtain ⟨e2, _⟩ := hok' b _ z2
      rw [ha] at e; cases e
      exact e2
end
/-- the goal that k_head leaves -/
theorem walk_ofM {l : PySem.W.OpenLaw} {n k : Nat} {q : Program} {loose : List Str} {XP : (Str → Option Value) → Heap → Prop} {YP : World → Heap → Prop} {d : DefRec} {K : Params → PySem.W.Frag} {f : Fn} {x : Str}
    (hn : l.most = some n) (hn2 : n ≤ sizeLine) (hdf : d.params.defaults = []) (hr : Room k callerA) (hY : ∀ (w : World) (h : Heap), YP w h → (K w.params).In h)
    (F : ∀ (w : World) (mg : Str → Option Value) (fa : Addr) (h : Heap), (K w.params).In h → h.Ns mainGlobals mg → mg d.name = some (.ref fa) →
      ∃ (fd : FuncData) (T : Cfg), T.K = K w.params ∧ (∀ (s : Shared) (u : Value), BindsTo s fd ⟨[u], []⟩ [(x, u)]) ∧ ∀ base : Heap, (K w.params).In base → base.Ns mainGlobals mg → FnG l.prog w (K w.params) mg base k fa fd [x] (spM T f 1))
    (hlaw : ∀ ns : List Int, ns.length ≤ n → ∃ S, f [.scr ns] [] = .ok (.bl true) S) :
    PySem.W.WalkO q loose XP YP l.row.toRowW d [] (fun f vs => PySem.call f vs) := by
  refine Att.attach_call hn hdf fun w s₀ s₁ mg mb fa o pm cd doc a vs ns G Y ho hd hcd hmg hobj hints hlen hg => ?_
  have KX := hY w _ Y
  obtain ⟨fd, T, hT, hb, hF⟩ := F w mg fa _ KX G.T.g hmg
  exact law_end hT KX G.T.g G.T.b G.T.builtins G.T.nolimit hg hobj hints (Nat.le_trans hlen hn2) hr hF hb (hlaw ns hlen)
end Mir
/-! Mir15: more new lists; small facts for the printed texts. -/
namespace Mir
open PySem PySem.Spec PyProof.Rows L2

theorem rgV_rep {T : Cfg} {B : Bd} (a b : Int) : RepL T B (rngD a (b - a).toNat) (rgV a b) := by
  unfold rngD rgV
  generalize List.range (b - a).toNat = l
  induction l with
  | nil => exact .nil
  | cons i l ih => exact .cons (.int _) ih
/-- list(range(a, b)) -/
def rng2 (x y : D) : Option Sl := match x, y with
  | .int a, .int b => if -(2 ^ 62) ≤ a ∧ a < 2 ^ 62 ∧ -(2 ^ 62) ≤ b ∧ b < 2 ^ 62 ∧ (b - a).toNat ≤ 2 ^ 24 then some (.ol (rngD a (b - a).toNat)) else none
  | _, _ => none
def liftF (S : MS) : Option Sl → R Sl
  | some s => .ok s S
  | none => .st
def fLR2 (ea eb : Exp) : Frs := fun S => (ea S).bind fun x S1 => (eb S1).bind fun y S2 => liftF S2 (rng2 x y)
def fLR1 (ea : Exp) : Frs := fun S => (ea S).bind fun y S1 => liftF S1 (rng2 (.int 0) y)
section
variable {X : Cx} {T : Su} {a b : Expr} {ea eb : Exp} {p p2 pos pos2 : Pos}
theorem rng2_post {T : Su} {σ : L2.St} {B : Bd} {Q : VK} {S : MS} {x y : D} {v w : V} {H : Hp} (r : Rl T.toZu S σ H B) (q1 : Rep T.toCfg B x v) (q2 : Rep T.toCfg B y w) (h : PostF T σ B Q (liftF S (rng2 x y))) :
    ∃ i j, v = .int i ∧ w = .int j ∧ RgOk i j ∧ ∀ q, H q = none → Q (.ref q) (upd H q (.lst (rgV i j))) := by
  cases q1 <;> first | (cases y <;> exact h.elim) | skip
  rename_i i
  cases q2 <;> first | exact h.elim | skip
  rename_i j
  have h2 : PostF T σ B Q (liftF S (if -(2 ^ 62) ≤ i ∧ i < 2 ^ 62 ∧ -(2 ^ 62) ≤ j ∧ j < 2 ^ 62 ∧ (j - i).toNat ≤ 2 ^ 24 then some (.ol (rngD i (j - i).toNat)) else none)) := h
  by_cases c : -(2 ^ 62) ≤ i ∧ i < 2 ^ 62 ∧ -(2 ^ 62) ≤ j ∧ j < 2 ^ 62 ∧ (j - i).toNat ≤ 2 ^ 24
  · rw [if_pos c] at h2
    exact ⟨i, j, rfl, rfl, c, fun q hq => h2 q _ H B hq r .rfl' rfl ⟨q, _, rfl, upd_same, rgV_rep i j⟩⟩
  · rw [if_neg c] at h2; exact h2.elim
theorem f_lr2 (hc : X.calm = true) (hg : Gl X "list") (hm : X.mg "list" = none) (hg2 : Gl X "range") (hm2 : X.mg "range" = none) (ha : PE X a (TEm T ea)) (hb : PE X b (TEm T eb))
    (na : starEach [a, b] X.env = (false, eval a X.env) :: starEach [b] X.env := by rfl) (nb : starEach [b] X.env = (false, eval b X.env) :: starEach [] X.env := by rfl) (hp : (backTo pos2 (starEach [b] X.env)).any (·.1) = false := by rfl)
    (nl : starEach [Expr.Call (.Name "range" p2) [a, b] [] pos2] X.env = (false, eval (Expr.Call (.Name "range" p2) [a, b] [] pos2) X.env) :: starEach [] X.env := by rfl) :
    PE X (.Call (.Name "list" p) [.Call (.Name "range" p2) [a, b] [] pos2] [] pos) (TFm T (fLR2 ea eb)) := peI (pe_listRg hc hg hm (prg_2 hg2 hm2 ha hb na nb hp) nl) fun σ H Q ⟨S, B, rl, h⟩ =>
  ⟨S, B, rl, PostR.toF h fun x S1 v H1 B1 r1 l1 q1 h1 => ⟨S1, B1, r1, PostR.toF h1 fun y S2 w H2 B2 r2 l2 q2 h2 => rng2_post r2 (q1.le l2) q2 h2⟩⟩
theorem f_lr1 (hc : X.calm = true) (hg : Gl X "list") (hm : X.mg "list" = none) (hg2 : Gl X "range") (hm2 : X.mg "range" = none) (ha : PE X a (TEm T ea)) (na : starEach [a] X.env = (false, eval a X.env) :: starEach [] X.env := by rfl)
    (nl : starEach [Expr.Call (.Name "range" p2) [a] [] pos2] X.env = (false, eval (Expr.Call (.Name "range" p2) [a] [] pos2) X.env) :: starEach [] X.env := by rfl) :
    PE X (.Call (.Name "list" p) [.Call (.Name "range" p2) [a] [] pos2] [] pos) (TFm T (fLR1 ea)) := peI (pe_listRg hc hg hm (prg_1 hg2 hm2 ha na) nl) fun σ H Q ⟨S, B, rl, h⟩ =>
  ⟨S, B, rl, PostR.toF h fun y S1 w H1 B1 r1 l1 q1 h1 => by
    obtain ⟨i, j, e1, e2, k, q⟩ := rng2_post (x := .int 0) r1 (.int 0) q1 h1
    cases e1
    exact ⟨j, e2, k, q⟩⟩
end

/-! ### which clause takes which class -/
theorem exm_of {K : PySem.W.Frag} {C D : Addr} {b : Bool} (h1 : PySem.W.subIn K (.ref D) (.type "BaseException") = some true) (h2 : PySem.W.isClsIn K D = true) (h3 : PySem.W.typeIn K (.ref D) = some (.type "type")) (h4 : PySem.W.subIn K (.ref C) (.ref D) = some b) :
    PySem.W.exmOne K (.ref C) (.ref D) = some b := by
  have e1 : (PySem.W.subIn K (.ref D) (.type "BaseException") == some true) = true := by rw [h1] <;> rfl
  have e2 : ((PySem.W.clsIn K D).isSome && PySem.W.typeIn K (.ref D) == some (.type "type")) = true := by
    have h2' : (PySem.W.clsIn K D).isSome = true := h2
    rw [h2', h3] <;> rfl
  show (if (PySem.W.subIn K (.ref D) (.type "BaseException") == some true) = true then (if ((PySem.W.clsIn K D).isSome && PySem.W.typeIn K (.ref D) == some (.type "type")) = true then PySem.W.subIn K (.ref C) (.ref D) else none) else none) = some b
  rw [if_pos e1, if_pos e2]
  exact h4
theorem isa_nil {K : PySem.W.Frag} {c0 : Value} {isa : Str → Bool} : ∀ (c : Str) (D : Addr), ([] : List (Str × Addr)).lookup c = some D → PySem.W.exmOne K (.ref D) c0 = some (isa c) := fun _ _ h => by cases h
theorem isa_cons {K : PySem.W.Frag} {c0 : Value} {isa : Str → Bool} {l : List (Str × Addr)} {n : Str} {C : Addr} {b : Bool} (h1 : PySem.W.exmOne K (.ref C) c0 = some b) (hb : isa n = b) (h2 : ∀ (c : Str) (D : Addr), l.lookup c = some D → PySem.W.exmOne K (.ref D) c0 = some (isa c)) :
    ∀ (c : Str) (D : Addr), ((n, C) :: l).lookup c = some D → PySem.W.exmOne K (.ref D) c0 = some (isa c) := fun c D h => by
  rw [List.lookup_cons] at h
  cases e : c == n with
  | true =>
    rw [e] at h
    have e : c = n := by simpa using e
    cases h
    rw [e, hb]; exact h1
  | false => rw [e] at h; exact h2 c D h
theorem FnG.none {P : Program} {w : World} {K : PySem.W.Frag} {mg : Str → Option Value} {base : Heap} {k : Nat} {f : Addr} {fd : FuncData} {ps : List Str} {n : Nat} {T : Cfg} (hn : ps.length = n) : FnG P w K mg base k f fd ps (spM T (fun _ _ => .st) n) :=
  ⟨fun vs H Q E ⟨ds, st, B, hl, q, _⟩ => by rw [← q.length, hn]; exact hl, fun _ _ _ _ _ _ _ _ _ _ _ _ _ _ ⟨_, _, _, _, _, _, h⟩ => h.elim⟩
theorem fbor_of {T : Su} {is : List Nat} {f : Frs} {σ : L2.St} {H : Hp} {Q : VK} (h : TFm T (fBor is f) σ H Q) : TFm T f σ H Q := by
  obtain ⟨S, B, rl, h⟩ := h
  refine ⟨_, _, rl.hide (is := is), ?_⟩
  unfold fBor at h
  cases e1 : f (S.hide is) with
  | st => rw [e1] at h; exact h.elim
  | ex _ _ _ => rw [e1] at h; exact h.elim
  | ok s S1 =>
    rw [e1] at h
    cases s with
    | un => exact h.elim
    | va _ => exact h.elim
    | od _ _ => exact h.elim
    | oi _ _ => exact h.elim
    | xc _ _ => exact h.elim
    | ol ds =>
      have h' : PostF T σ B Q (if D.flats ds = true then .ok (.ol ds) S else .st) := h
      by_cases c : D.flats ds = true
      · rw [if_pos c] at h'
        intro p o H' B1 hp r1 l1 lv q1
        obtain ⟨r2, l2, tp⟩ := rl.show r1 l1
        obtain ⟨a, xs, ea, k, q⟩ := q1
        exact h' p o H' _ hp r2 l2 rfl ⟨a, xs, ea, k, flats_rep tp c q⟩
      · rw [if_neg c] at h'; exact h'.elim
section
variable {X : Cx} {T : Su} {elt tg iter : Expr} {ifs : List Expr} {scope : Scope} {own : List (Str × Nat)} {is : List Nat} {pos : Pos} {its : Exps} {g : Tgt} {t : Tst} {e : Exp}
theorem y_setLcB {i : Nat} {y : Str} {py spos : Pos} (hc : X.calm = true) (hN : X.N.Nodup) (hy : X.N[i]? = some y) (hyl : X.env.scope.names.lookup y = some .local)
    (hsw : swapsWith (.ListComp elt [⟨tg, iter, ifs, 0⟩] scope pos) (some (.Name y py)) spos.line X.env = pure true) (hi : PI X tg iter (TIm T its)) (ok : BlkOk X.N X.env.scope scope own)
    (hg : ∀ (s : Shared) (H : Hp) (C : Addr) (cl : List (Str × Addr)) (fp : List Addr), PG (X.blk s H scope (compEnvC scope cl C X.env) fp) tg (TWm T.blk (own.map (·.2)) g)) (ht : ∀ (s : Shared) (H : Hp) (C : Addr) (cl : List (Str × Addr)) (fp : List Addr), PTs (X.blk s H scope (compEnvC scope cl C X.env) fp) ifs (TTm T.blk t))
    (he : ∀ (s : Shared) (H : Hp) (C : Addr) (cl : List (Str × Addr)) (fp : List Addr), PE (X.blk s H scope (compEnvC scope cl C X.env) fp) elt (TEm T.blk e)) (hs : ∀ x, foldedSetIterable iter X.env x = pure x := by intro _; rfl) :
    PS X (.Assign [.Name y py] (.ListComp elt [⟨tg, iter, ifs, 0⟩] scope pos) spos) (TSm T (sOwn i (fBor is (fLc (own.map (·.2)) its g t e)))) :=
  psI (ps_setLc hc hN hy hyl hsw hi ok hg ht he hs) fun D σ H h => lc_of (fbor_of (own_of h))
end
theorem g_repr {T : Cfg} : Bi T (rRepr T.K) (one reprO) := by
  apply bi_one
  intro Z S σ H B x d v Q rl q e k
  unfold reprO at e
  split at e
  · rename_i c
    obtain ⟨c1, c2, c3, c4, c5⟩ := c
    cases e
    exact ⟨v, _, rfl, Rep.dp rl q c1, c2, c3, c4, c5, k _ H B rl .rfl' (.str _)⟩
  · cases e
theorem u64 {k : Nat} {A : Around} (r : Room k A) : A.units + 64 < cLine := by have := r.un; omega
theorem u1 {k : Nat} {A : Around} (r : Room k A) : A.units + 1 < cLine := by have := r.un; omega
theorem u62 {k : Nat} {A : Around} (r : Room k A) : A.units + 62 < cLine := by have := r.un; omega
theorem u65 {k : Nat} {A : Around} (r : Room k A) : A.units + 65 < cLine := by have := r.un; omega
end Mir
set_option maxHeartbeats 2000000
/-! Mir16: own errors of two fields. -/
namespace Mir
open PySem PySem.Spec PyProof.Rows L2 PySem.W PySem.HandSPX

section
variable {prog : Program} {w : World} {A : Around} {E : Value → Shared → Prop} {R : Result → Shared → Prop} {s : Shared} {K : Frag} {mg : Str → Option Value} {C fI cda cc : Addr}
/-- the body of such an __init__ -/
abbrev eB2 (n1 n2 : Str) (q3 q6 q0 q1 q2 q4 q5 r1 r2 r3 r4 u1 u2 u3 u4 : Pos) : List Stmt := [eSup [.Name n1 q3, .Name n2 q6] q0 q1 q2 q4 q5, eSet n1 r1 r2 r3 r4, eSet n2 u1 u2 u3 u4]
theorem err_init2 {qual n1 n2 : Str} {x t0 : Addr} {v v2 : Value} {mb : Str → Option Value} {p1 p2 p3 q0 q1 q2 q3 q4 q5 q6 r1 r2 r3 r4 u1 u2 u3 u4 : Pos} (T : ErrC prog K mg C cda cc) (TI : ErrI K C fI cda cc qual (eA2 n1 n2 p1 p2 p3) (eB2 n1 n2 q3 q6 q0 q1 q2 q4 q5 r1 r2 r3 r4 u1 u2 u3 u4) (eS2 n1 n2)) (hn1 : Plain n1) (hn2 : Plain n2) (h12 : n1 ≠ n2)
    {ar : Args} (hba : ∀ (kV doc pm : Value) (an : Option Addr) (ct : Value), bindArgs (ksFn "__init__" qual (eA2 n1 n2 p1 p2 p3) (eB2 n1 n2 q3 q6 q0 q1 q2 q4 q5 r1 r2 r3 r4 u1 u2 u3 u4) (eS2 n1 n2) .none kV doc pm an (.ref cda) ct cc) ar = pure [(("self" : Str), .ref x), (n1, v), (n2, v2)]) (hsc : ∀ L : Addr, SupCall (ksEnv qual (eS2 n1 n2) L fI (.ref cda) cc) q0 q1 q2 q4 [.Name n1 q3, .Name n2 q6]) (hno : findIn K (.ref C) n1 = some none) (hno2 : findIn K (.ref C) n2 = some none)
    (X : K.In s.heap) (hg : s.heap.Ns mainGlobals mg) (hbn : s.heap.Ns builtinsNs mb) (hbb : ∀ x : Str, x ≠ "__name__" → mb x = bootBuiltins x) (hlim : s.heap.NoLimit) (hx : s.heap.get? x = some (excO C t0)) (hnx : K.lookup x = none) (hxg : x ≠ mainGlobals ∧ x ≠ builtinsNs) (hroom : A.depth < recursionLimit)
    (hq : ∀ h' tk dx t1, (∀ b o, b ≠ x → s.heap.get? b = some o → h'.get? b = some o) → s.heap.objs.size ≤ dx → dx ≠ x → h'.get? x = some { cls := .ref C, dict := some dx, data := .fields #[.ref t1, .none, .none, .none, .bool false, .none] } →
      h'.Ns1 dx (fun y => if y = n2 then some v2 else if y = n1 then some v else none) → R (.ok (.ret .none)) { s with heap := h', toks := tk }) :
    codeAny (model prog w) A (.call (.ref fI) ar) R s := by
  obtain ⟨oc, od, kV, doc, pm, an, ct, osl, ho, hcd⟩ := TI.fn
  obtain ⟨nm, qn, N, bs, bm, sn, sub, ab, col, dd, k0, k1, k2, k3, k5, hC, hbm⟩ := T.cls
  have hcl : clsIn K C = some { name := nm, bases := bs, mro := .ref C :: bm, ns := N, qualname := qn, hasDict := true, slotNames := sn, subclasses := sub, abstract := ab, collection := col, hasDel := false } := by unfold clsIn; rw [hC] <;> rfl
  obtain ⟨d1, d2, d3, d4⟩ := hn1
  obtain ⟨g1, g2, g3, g4⟩ := hn2
  have lself : (eS2 n1 n2).names.lookup ("self" : Str) = some .local := look_eq
  have ln1 : (eS2 n1 n2).names.lookup n1 = some .local := by show (_ :: (n1, _) :: _ : List (Str × NameKind)).lookup n1 = _; rw [look_ne (fun e => d1 e.symm)]; exact look_eq
  have ln2 : (eS2 n1 n2).names.lookup n2 = some .local := by show (_ :: (n1, _) :: (n2, _) :: _ : List (Str × NameKind)).lookup n2 = _; rw [look_ne (fun e => g1 e.symm), look_ne h12]; exact look_eq
  have lcls : (eS2 n1 n2).names.lookup ("__class__" : Str) = some .free := by
    show ((PySem.Str.ofString "self", _) :: (n1, _) :: (n2, _) :: (PySem.Str.ofString "__class__", _) :: _ : List (Str × NameKind)).lookup (PySem.Str.ofString "__class__") = _
    rw [look_ne (by decide), look_ne d3, look_ne g3]; exact look_eq
  have lsup : (eS2 n1 n2).names.lookup ("super" : Str) = some .globalImplicit := by
    show ((PySem.Str.ofString "self", _) :: (n1, _) :: (n2, _) :: (PySem.Str.ofString "__class__", _) :: (PySem.Str.ofString "super", _) :: _ : List (Str × NameKind)).lookup (PySem.Str.ofString "super") = _
    rw [look_ne (by decide), look_ne d2, look_ne g2, look_ne (by decide)]; exact look_eq
  refine ks_codeAny_call_defAt (fd := ksFn "__init__" qual (eA2 n1 n2 p1 p2 p3) (eB2 n1 n2 q3 q6 q0 q1 q2 q4 q5 r1 r2 r3 r4 u1 u2 u3 u4) (eS2 n1 n2) .none kV doc pm an (.ref cda) ct cc) (binds := [(("self" : Str), .ref x), (n1, v), (n2, v2)]) hroom (X _ _ ho) rfl hlim (codeRec_of X hcd) rfl (BindsTo.of_eq (hba kV doc pm an ct)) ?_ ?_ (fun h₁ hns hk₁ => ?_) rfl rfl rfl
  · intro y hy
    have hy : y ∈ (eS2 n1 n2).names := hy
    simp only [eS2, List.mem_cons, List.not_mem_nil, or_false] at hy
    rcases hy with rfl | rfl | rfl | rfl | rfl <;> (intro z; cases z)
  · intro y hy
    simp only [List.mem_cons, List.not_mem_nil, or_false] at hy
    rcases hy with rfl | rfl | rfl
    · exact lself
    · exact ln1
    · exact ln2
  have X₁ : K.In h₁ := X.keeps hk₁
  have hx₁ := hk₁ _ _ hx
  have hxL : s.heap.objs.size ≠ x := Nat.ne_of_gt (Heap.lt_size hx)
  have mself : ([(("self" : Str), Value.ref x), (n1, v), (n2, v2)] : List (Str × Value)).reverse.lookup ("self" : Str) = some (.ref x) := by
    show ([(n2, v2), (n1, v), (("self" : Str), Value.ref x)] : List (Str × Value)).lookup ("self" : Str) = _
    rw [look_ne g1, look_ne d1]; exact look_eq
  have mn1 : ([(("self" : Str), Value.ref x), (n1, v), (n2, v2)] : List (Str × Value)).reverse.lookup n1 = some v := by
    show ([(n2, v2), (n1, v), (("self" : Str), Value.ref x)] : List (Str × Value)).lookup n1 = _
    rw [look_ne (fun e => h12 e.symm)]; exact look_eq
  have mn2 : ([(("self" : Str), Value.ref x), (n1, v), (n2, v2)] : List (Str × Value)).reverse.lookup n2 = some v2 := look_eq
  show PySem.wpAt _ (A.deeper (ksEnv qual (eS2 n1 n2) s.heap.objs.size fI (.ref cda) cc)) (.func _ (ksEnv qual (eS2 n1 n2) s.heap.objs.size fI (.ref cda) cc)) (execs _ (ksEnv qual (eS2 n1 n2) s.heap.objs.size fI (.ref cda) cc)) _ _ _
  refine ks_wpAt_execs_cons (err_super (m := fun y => ([(("self" : Str), Value.ref x), (n1, v), (n2, v2)] : List (Str × Value)).reverse.lookup y) (vs := [v, v2]) T X₁ (hg.keeps hk₁) (hbn.keeps hk₁) hbb (hlim.keeps hk₁) ho rfl rfl hns mself hx₁ rfl lsup lcls lself (two_size v v2) (fun s' hn' => ?_) (by rfl) (by rfl) (hsc _) (by rfl) ?_)
  · exact PySem.Calls.spliced_cons (ldX hn' mn1 (PySem.Calls.spliced_cons (ldX hn' mn2 (PySem.Calls.spliced_nil ⟨rfl, rfl⟩) rfl ln2 g4)) rfl ln1 d4)
  · intro h2 t1 tk2 kk hx2 hsz
    have kx : ∀ b o, s.heap.get? b = some o → b ≠ x → h2.get? b = some o := fun b o e hb => kk b o hb (hk₁ b o e)
    have X₂ : K.In h2 := fun a o e => kk a o (fun z => by rw [z, hnx] at e; cases e) (X₁ a o e)
    have hn2 : h2.Ns s.heap.objs.size (fun y => ([(("self" : Str), Value.ref x), (n1, v), (n2, v2)] : List (Str × Value)).reverse.lookup y) := by
      obtain ⟨o, es, ep, e1, e2, e3⟩ := hns
      exact ⟨o, es, ep, kk _ _ hxL e1, e2, e3⟩
    show PySem.wpAt _ _ _ (execs [eSet n1 r1 r2 r3 r4, eSet n2 u1 u2 u3 u4] _) _ _ _
    refine wpAt_of_wpAny (wpAny_execs_cons (plainObj_wpAny_Assign_Attribute (ldX hn2 mn1 (ldX hn2 mself ?_ rfl lself (by decide)) rfl ln1 d4)))
    refine set_plain X₂ (ox := excO C t1) (od := none) ⟨hx2, rfl, rfl, trivial⟩ T.sa ?_
    refine exc_osa X₂ hx2 hcl (show refsVE (.ref C :: bm) = true from hbm) rfl hno (fun h₃ tk₃ dx k₃ dn dne hx₃ hn₃ => ?_)
    have X₃ : K.In h₃ := fun a o e => k₃ a o (fun z => by rw [z, hnx] at e; cases e) (X₂ a o e)
    have hL3 : h₃.Ns s.heap.objs.size (fun y => ([(("self" : Str), Value.ref x), (n1, v), (n2, v2)] : List (Str × Value)).reverse.lookup y) := by
      obtain ⟨o, es, ep, e1, e2, e3⟩ := hn2
      exact ⟨o, es, ep, k₃ _ _ hxL e1, e2, e3⟩
    have hdb : s.heap.objs.size < dx := Nat.lt_of_lt_of_le hn2.lt dn
    refine wpAny_execs_cons (plainObj_wpAny_Assign_Attribute (ldX hL3 mn2 (ldX hL3 mself ?_ rfl lself (by decide)) rfl ln2 g4))
    obtain ⟨oD, esD, epD, hoD, hdD, _⟩ := hn₃.count (ns := [n1]) (Within.cons n1 v Within.nil)
    refine set_plain X₃ (ox := { cls := .ref C, dict := some dx, data := .fields #[.ref t1, .none, .none, .none, .bool false, .none] }) (od := some oD) ⟨hx₃, rfl, rfl, hoD⟩ T.sa ?_
    refine OEX.osa_old (nl := [n1]) X₃ hx₃ hn₃ (Within.cons n1 v Within.nil) (show 1 ≤ 1000 by omega) hcl (show refsVE (.ref C :: bm) = true from hbm) rfl hno2 (fun h₄ tk₄ k₄ hn₄ => ?_)
    refine wpAny_execs_nil (hq h₄ tk₄ dx t1 (fun b o hb e => ?_) (Nat.le_of_lt hdb) dne (k₄ _ _ (Ne.symm dne) hx₃) hn₄)
    have hbl : b < s.heap.objs.size := Heap.lt_size e
    exact k₄ b o (Nat.ne_of_lt (Nat.lt_trans hbl hdb)) (k₃ b o hb (kx b o e hb))
theorem err_made2 {qual n1 n2 : Str} {v v2 : Value} {mb : Str → Option Value} {p1 p2 p3 q0 q1 q2 q3 q4 q5 q6 r1 r2 r3 r4 u1 u2 u3 u4 : Pos} (T : ErrC prog K mg C cda cc) (TI : ErrI K C fI cda cc qual (eA2 n1 n2 p1 p2 p3) (eB2 n1 n2 q3 q6 q0 q1 q2 q4 q5 r1 r2 r3 r4 u1 u2 u3 u4) (eS2 n1 n2)) (hn1 : Plain n1) (hn2 : Plain n2) (h12 : n1 ≠ n2)
    (hba : ∀ (kV doc pm : Value) (an : Option Addr) (ct x v v2 : Value), bindArgs (ksFn "__init__" qual (eA2 n1 n2 p1 p2 p3) (eB2 n1 n2 q3 q6 q0 q1 q2 q4 q5 r1 r2 r3 r4 u1 u2 u3 u4) (eS2 n1 n2) .none kV doc pm an (.ref cda) ct cc) ⟨[x, v, v2], []⟩ = pure [(("self" : Str), x), (n1, v), (n2, v2)]) (hsc : ∀ L : Addr, SupCall (ksEnv qual (eS2 n1 n2) L fI (.ref cda) cc) q0 q1 q2 q4 [.Name n1 q3, .Name n2 q6]) (hno : findIn K (.ref C) n1 = some none) (hno2 : findIn K (.ref C) n2 = some none)
    (X : K.In s.heap) (hg : s.heap.Ns mainGlobals mg) (hbn : s.heap.Ns builtinsNs mb) (hbb : ∀ x : Str, x ≠ "__name__" → mb x = bootBuiltins x) (hlim : s.heap.NoLimit) (hroom : A.depth + 1 < recursionLimit)
    (hq : ∀ h' tk e d, ErrMade s.heap h' e C d (fun y => if y = n2 then some v2 else if y = n1 then some v else none) → R (.ok (.ret (.ref e))) { s with heap := h', toks := tk }) :
    codeAny (model prog w) A (.call (.ref C) ⟨[v, v2], []⟩) R s := by
  obtain ⟨nm, q, N, bs, bm, sn, sub, ab, col, dd, k0, k1, k2, k3, k5, hC, hbm⟩ := T.cls
  obtain ⟨hp, g, dr, tk, os⟩ := s
  have kp : ∀ b o, hp.get? b = some o → ((hp.push (kdv_tup [v, v2])).push (excO C hp.objs.size)).get? b = some o := fun b o e => Heap.get?_push_of_some _ (Heap.get?_push_of_some _ e)
  have hget : ((hp.push (kdv_tup [v, v2])).push (excO C hp.objs.size)).get? (hp.objs.size + 1) = some (excO C hp.objs.size) := by heap_get
  have hnx : K.lookup (hp.objs.size + 1) = none := by
    cases e : K.lookup (hp.objs.size + 1) with
    | none => rfl
    | some o =>
      have z : hp.get? (hp.objs.size + 1) = some o := X _ _ e
      exact absurd (Nat.lt_of_succ_lt (Heap.lt_size z)) (Nat.lt_irrefl _)
  have nsx : ∀ {b : Addr} {m : Str → Option Value}, hp.Ns b m → hp.objs.size + 1 ≠ b := fun hb z => by have := hb.lt; rw [← z] at this; exact absurd (Nat.lt_of_succ_lt this) (Nat.lt_irrefl _)
  refine call_own F.excBase_ValueError (fun X => refsVE_contains X bm hbm) (X _ _ hC) (looks_findIn X TI.iC) (fun self => bind_fn X self TI.tC) (two_size v v2) ?_
  refine err_init2 (s := ⟨(hp.push (kdv_tup [v, v2])).push (excO C hp.objs.size), g, dr, tk, os⟩) T TI hn1 hn2 h12 (fun kV doc pm an ct => hba kV doc pm an ct _ _ _) hsc hno hno2 (X.keeps kp) (hg.keeps kp) (hbn.keeps kp) hbb (hlim.keeps kp) hget hnx ⟨nsx hg, nsx hbn⟩ ?_ fun h' tk' dx t1 k' dn dne hx hns => ?_
  · show A.depth + 1 < recursionLimit
    exact hroom
  · have old : ∀ b o, hp.get? b = some o → h'.get? b = some o := fun b o e => k' b o (Nat.ne_of_lt (Nat.lt_succ_of_lt (Heap.lt_size e))) (kp b o e)
    have z : hp.objs.size + 1 + 1 ≤ dx := by
      first
        | (simpa only [Heap.size_push] using dn)
        | exact dn
        | (have q := dn; rw [Heap.size_push, Heap.size_push] at q; exact q)
    exact ⟨rfl, hq h' tk' (hp.objs.size + 1) dx ⟨old, Nat.le_succ _, ⟨_, _, hx, rfl, rfl, rfl, rfl⟩, Nat.le_trans (Nat.le_trans (Nat.le_succ _) (Nat.le_succ _)) z, dne, hns⟩⟩
end
section
variable {X : Cx} {C fI cda cc : Addr}
theorem relO_two {n1 n2 : Str} {v v2 : V} {a b : Value} (h12 : n1 ≠ n2) (r1 : RelV v a) (r2 : RelV v2 b) (f : Str) : RelO (List.lookup f [(n1, v), (n2, v2)]) (if f = n2 then some b else if f = n1 then some a else none) := by
  by_cases h : f = n1
  · subst h
    rw [if_neg h12, if_pos rfl, look_eq]; exact r1
  · rw [look_ne (fun e => h e.symm), if_neg h]
    exact relO_one r2 f
/-- C(e, e'): an error of two fields -/
theorem pmk_err2 {x qual n1 n2 : Str} {a b : Expr} {ta : TA} {p pos : Pos} {k : Nat} {p1 p2 p3 q0 q1 q2 q3 q4 q5 q6 r1 r2 r3 r4 u1 u2 u3 u4 : Pos} (T : ErrC X.prog X.K X.mg C cda cc) (TI : ErrI X.K C fI cda cc qual (eA2 n1 n2 p1 p2 p3) (eB2 n1 n2 q3 q6 q0 q1 q2 q4 q5 r1 r2 r3 r4 u1 u2 u3 u4) (eS2 n1 n2)) (hn1 : Plain n1) (hn2 : Plain n2) (h12 : n1 ≠ n2)
    (hba : ∀ (kV doc pm : Value) (an : Option Addr) (ct x v v2 : Value), bindArgs (ksFn "__init__" qual (eA2 n1 n2 p1 p2 p3) (eB2 n1 n2 q3 q6 q0 q1 q2 q4 q5 r1 r2 r3 r4 u1 u2 u3 u4) (eS2 n1 n2) .none kV doc pm an (.ref cda) ct cc) ⟨[x, v, v2], []⟩ = pure [(("self" : Str), x), (n1, v), (n2, v2)]) (hsc : ∀ L : Addr, SupCall (ksEnv qual (eS2 n1 n2) L fI (.ref cda) cc) q0 q1 q2 q4 [.Name n1 q3, .Name n2 q6]) (hno : findIn X.K (.ref C) n1 = some none) (hno2 : findIn X.K (.ref C) n2 = some none)
    (hr : Room k X.A) (hg : Gl X x) (hm : X.mg x = some (.ref C)) (ha : PA X [a, b] ta) (hdb : (x == ("__debug__" : Str)) = false := by decide)
    (he : starEach (a :: [b]) X.env = (false, eval a X.env) :: starEach [b] X.env := by rfl) (hpl : (backTo pos (starEach [b] X.env)).any (·.1) = false := by rfl) :
    PMk X (.Call (.Name x p) [a, b] [] pos) (tMkF C [n1, n2] ta) := by
  intro pins s σ H Q I h
  refine wpAny_Call_Name_kw (ld_glob I hg hm ?_ hdb)
  refine PySem.W.callWith_K (h₀ := X.base) I.ok.mod.kin T.kC (thn (ha.run pos pins s σ H _ I h) fun us s1 hh => ?_) he hpl
  obtain ⟨vs, H1, I1, rr, hl, qq⟩ := hh
  refine ⟨I1.kIn, ?_⟩
  cases rr with
  | nil => cases hl
  | cons rv rn =>
    rename_i v v' vs' us'
    cases rn with
    | nil => cases hl
    | cons rv2 rn =>
      rename_i y y' vs'' us''
      cases rn with
      | cons _ _ => cases hl
      | nil =>
        show wpAny _ _ (PySem.call (.ref C) [v', y']) _ _ _
        have hlim := I1.nolimit
        have hgl : s1.heap.Ns mainGlobals X.mg := I1.ok.mod.glob.keeps I1.bk
        obtain ⟨mb, hb1, hb2⟩ := I1.ok.mod.blt
        have hbn := hb1.keeps I1.bk
        obtain ⟨hp, g, dr, tk, os⟩ := s1
        refine wpAny_call (err_made2 T TI hn1 hn2 h12 hba hsc hno hno2 I1.kIn hgl hbn hb2 hlim (by have := hr.dp; omega) fun h' tk' e d M => ?_)
        show MkP X pins σ Q (.ref e) ⟨h', g, dr, tk', os⟩
        obtain ⟨oe, fv, hoe, hc, hd, hdat, h1⟩ := M.obj
        have hns := M.ns
        obtain ⟨G', g1, g2⟩ := restrict h' fun b => decide (b ≠ e)
        have gk : ∀ b, b ≠ e → G'.get? b = h'.get? b := fun b hb => g1 b (decide_eq_true hb)
        have ge : G'.get? e = none := g2 e (by simp)
        have old : ∀ b o, hp.get? b = some o → G'.get? b = some o := fun b o q => (gk b (Nat.ne_of_lt (Nat.lt_of_lt_of_le (Heap.lt_size q) M.new))).trans (M.keep b o q)
        have ob : ObjOk X.prog X.w (upd H1 d (.xd [(n1, v), (n2, y)])) G' d (.xd [(n1, v), (n2, y)]) := ⟨_, hns.at (fun o q => (gk d M.dne).trans q), fun f => relO_two h12 rv rv2 f⟩
        have J : Inv X pins σ (upd H1 d (.xd [(n1, v), (n2, y)])) ⟨G', g, dr, tk', os⟩ := I1.laid (t' := tk') old M.dbig ob
        refine ⟨e, oe, fv, ⟨G', g, dr, tk', os⟩, _, .ref C, some d, rfl, J, fun b o q => ?_, ge, hoe, ⟨hc, hd⟩, hdat, h1, ?_, rfl, I1.bare, raises_own T.exC T.tyC, qq d (I1.hok.fresh M.dbig)⟩
        · by_cases hb : b = e
          · have q' : G'.get? b = some o := q
            rw [hb, ge] at q'; cases q'
          · exact (gk b hb).symm.trans q
        · rw [upd_ne (Ne.symm M.dne)]
          exact I1.hok.fresh M.new
end
end Mir
set_option maxHeartbeats 4000000
/-! Mir17: isinstance of a caught error, whatever its fields. -/
namespace Mir
open PySem PySem.Spec PyProof.Rows L2 PySem.W

/-- e.__class__, with a dict or without -/
theorem kin_cls {prog : Program} {w : World} {A : Around} {E : Value → Shared → Prop} {Q : Option Value → Shared → Prop} {s : Shared} {K : Frag} {e C : Addr} {oe : Obj} {od : Option Obj} (T : ExcC K C) (X : K.In s.heap) (I : InstAt s.heap e oe C od) (h : Q (some (.ref C)) { s with toks := s.toks + 1 }) :
    wpAny (model prog w) A (getAttr? (.ref e) "__class__") Q E s := by
  have some_cls : (clsIn K C).isSome = true := by obtain ⟨cd, hc, _⟩ := any_some T.hd; rw [hc]; rfl
  have hf : findObj K C od "__class__" = some (.bind (.builtin "getset_descriptor.__get__") (.builtin "object.__class__")) := by
    cases od with
    | none => exact findObj_dataN some_cls T.ha T.hn T.ht
    | some o => exact findObj_data some_cls T.ha T.hn T.ht
  obtain ⟨hh, gs, dr, n, os⟩ := s
  have M0 := I.type (M := model prog w)
  have M1 := looks_findIn (M := model prog w) X T.hg
  have M2 := looks_findIn (M := model prog w) X T.hk
  have M3 := looks_find (M := model prog w) X I hf
  have below : Looks (model prog w) hh (isInstance (.ref e) (.type "BaseException")) true := M0.andThen (looks_subIn X T.hs)
  have n0 : (false && onTheHeap (Value.builtin "BaseException.__getattribute__")) = false := rfl
  have n1 : (onTheHeap (Value.ref C) && Value.builtin "BaseException.__getattribute__" == Value.builtin "object.__getattribute__") = false := by rw [show (Value.builtin "BaseException.__getattribute__" == Value.builtin "object.__getattribute__") = false from by decide +kernel]; rfl
  unfold getAttr? getAttrBy? getAttrBy
  refine wpAny_bind (wpAny_mkText (wpAny_bind (wpAny_attempt (wpAny_holding (wpAny_bind (M0.at (wpAny_bind (M1.at ?_))))))))
  show wpAny _ _ (if (onTheHeap (Value.ref C) && Value.builtin "BaseException.__getattribute__" == Value.builtin "object.__getattribute__") = true then _ else _) _ _ _
  rw [n1, if_neg (by decide)]
  unfold getAttrByItsOwn hookBefore
  refine wpAny_bind ?_
  rw [if_pos (show onTheHeap (Value.ref C) = true from rfl)]; refine M2.at ?_
  refine wpAny_bind (wpAny_attempt (wpAny_holding ?_))
  unfold callGetattribute; rw [n0, if_neg (by decide)]
  unfold boundAndCalled
  rw [PySem.F.excAttr_ValueError.ga.bind (.ref e)]; refine wpAny_bind (wpAny_pure ?_)
  show wpAny _ _ (call (.builtin "BaseException.__getattribute__") [.ref e, .str "__class__" n]) _ _ _
  refine wpAny_call (codeAny_call_builtin PySem.F.excAttr_ValueError.ga.plain PySem.F.entry_bexc_ga (@check_slot (model prog w) _ _ ⟨hh, gs, dr, n + 1, os⟩ "BaseException.__getattribute__" "BaseException" "__getattribute__" (.ref e) [.str "__class__" n] [] _ (by decide +kernel) (by decide +kernel) below (PySem.F.args_bexc_ga (.ref e) (.str "__class__" n)) ?_))
  unfold Builtin.«object.__getattribute__»
  refine wpAny_bind (wpAny_of_eq (a := ((Value.ref e : Value), [Value.str "__class__" n])) (by first | rfl | (simp only [slotArgs]; rfl)) ?_)
  refine wpAny_bind (wpAny_pure (wpAny_bind (M0.at (wpAny_bind (M3.at ?_)))))
  show wpAny _ _ (holding [Value.builtin "object.__class__"] (call (.builtin "getset_descriptor.__get__") [.builtin "object.__class__", .ref e, .ref C]) >>= ret) _ _ _
  refine wpAny_bind (wpAny_holding (wpAny_call (class_get (s := ⟨hh, gs, dr, n + 1, os⟩) (ox := oe) (od := od) X I T.hm ?_)))
  refine wpAny_pure ?_
  show wpAny _ _ (handedOut (.ref C)) _ _ _
  rw [handedOut_of (v := .ref C) rfl]
  first
    | exact wpAny_pure (wpAny_pure h)
    | exact wpAny_pure h
    | exact wpAny_pure (wpAny_bind (wpAny_pure (wpAny_pure h)))
theorem cls_data {K : Frag} {C : Addr} (T : ExcC K C) : ∃ c' d' cd' sl', K.lookup C = some ⟨c', d', .cls cd', sl'⟩ := by
  obtain ⟨cdD, hcD, _⟩ := any_some T.hd
  unfold clsIn at hcD
  split at hcD
  · exact ⟨_, _, _, _, ‹_›⟩
  · cases hcD
theorem kitx_err {K : Frag} {e C : Addr} {oe : Obj} {od : Option Obj} (T : ExcC K C) : KitX K (.ref e) (.ref C) (fun h => InstAt h e oe C od) := by
  obtain ⟨c', d', cd', sl', ho⟩ := cls_data T
  refine ⟨fun _ _ _ I => I.type, fun _ _ X _ A Q E s k q => ?_, fun h tp dd its n sl X htp => Bool.eq_false_iff.mpr fun q => ?_, fun X I k => kin_cls T X I k⟩
  · unfold isType loadHead
    exact wpAny_bind (wpAny_loadPart (k _ _ (X _ _ ho)) (wpAny_pure q))
  · have z : C = tp := Value.ref.inj (beq_iff_eq.mp q)
    subst z
    cases (X _ _ ho).symm.trans htp
/-- what isinstance asks of the error at a -/
def rIsX (K : Frag) (a : Addr) (cls : Value) (d : Option Addr) : List V → Hp → VK → Prop := fun xs H Q => ∃ (C : Addr) (c : V) (cv : Value) (b : Bool), xs = [.ref a, c] ∧ cls = .ref C ∧ ExcC K C ∧ (∀ u, RelV c u → u = cv) ∧ kitOne K (.ref C) cv = some b ∧ (d = none ∨ ∃ dx fs, d = some dx ∧ H dx = some (.xd fs)) ∧ Q (.bl b) H
theorem call_isX {X : Cx} {a : Addr} {cls : Value} {d : Option Addr} {oe : Obj} {pn : List (Addr × Obj)} (hz : Zc cls d oe) (hf : ∃ vs, oe.data = .fields vs) : CallR (X.suite a ((a, oe) :: pn)) (.builtin "isinstance") (rIsX X.K a cls d) := by
  intro pins s σ H xs us Q I r h
  obtain ⟨C, c, cv, b, rfl, hcls, T, hcv, e, hd, q⟩ := h
  cases r with
  | cons rx rr =>
    cases rr with
    | cons rt rr =>
      cases rr
      cases rx
      have ec := hcv _ rt
      subst ec
      obtain ⟨hget, _⟩ := I.pin (a, oe) (List.mem_append.mpr (.inl List.mem_cons_self))
      obtain ⟨vs, hv⟩ := hf
      have J : ∃ od, InstAt s.heap a oe C od := by
        obtain ⟨oc, odc, oda, osl⟩ := oe
        obtain ⟨h1, h2⟩ := hz
        dsimp only at h1 h2 hv
        subst h1 h2 hv
        rcases hd with hd | ⟨dx, fs, hd, hH⟩
        · subst hd
          exact ⟨none, hget, hcls, rfl, trivial⟩
        · subst hd
          have hx : ObjOk X.prog X.w H s.heap dx (.xd fs) := I.hok dx _ hH
          obtain ⟨mA, ⟨o, es, ep, ho, _⟩, _⟩ := hx
          exact ⟨some o, hget, hcls, rfl, ho⟩
      obtain ⟨od, J⟩ := J
      exact kia_one (kitx_err T) I.kIn J e (fun z => nomatch z) fun tk => ⟨.bl b, H, I.kept (t' := tk) fun _ _ z => z, rfl, q⟩
/-- isinstance(e, ..), e the error of the suite -/
def eIs (i : Nat) (isa : Str → Bool) : Exp := fun S => match S.env[i]? with
  | some (.xc c _) => .ok (.bl (isa c)) S
  | _ => .st
/-- isa tells which of T's classes are the class that cv is -/
def IsK (T : Cfg) (K : Frag) (cv : Value) (isa : Str → Bool) : Prop := ∀ c C, T.cls c = some C → ExcC K C ∧ kitOne K (.ref C) cv = some (isa c)
theorem r_isX {X : Cx} {T : Su} {i : Nat} {x : Str} {ec : Expr} {v : V} {cv : Value} {isa : Str → Bool} {a : Addr} {oe : Obj} {cls : Value} {d : Option Addr} {pn : List (Addr × Obj)} {p p' pos : Pos} (hg : Gl X "isinstance") (hm : X.mg "isinstance" = none) (hk : IsK T.toCfg X.K cv isa) (hcv : ∀ u, RelV v u → u = cv)
    (hz : Zc cls d oe) (hf : ∃ vs, oe.data = .fields vs) (hN : X.N[i]? = some x) (hv : Vis X.env.scope x) (hec : PE (X.suite a ((a, oe) :: pn)) ec (tC v)) (hd : (x == ("__debug__" : Str)) = false := by decide) (hcd : (x == ("__classdict__" : Str)) = false := by decide)
    (h1 : starEach [.Name x p', ec] X.env = (false, eval (.Name x p') X.env) :: starEach [ec] X.env := by rfl) (h2 : starEach [ec] X.env = (false, eval ec X.env) :: starEach [] X.env := by rfl) (hpl : (backTo pos (starEach [ec] X.env)).any (·.1) = false := by rfl) :
    PE (X.suite a ((a, oe) :: pn)) (.Call (.Name "isinstance" p) [.Name x p', ec] [] pos) (TEm (T.sui a cls d) (eIs i isa)) := by
  refine peI (pe_callB (X := X.suite a ((a, oe) :: pn)) (call_isX hz hf) hg hm boot_isinstance (pa_cons (pe_var (X := X.suite a ((a, oe) :: pn)) hN hv hd hcd) (pa_cons hec pa_nil h2) h1) (by decide) (by decide) h1 hpl) fun σ H Q ⟨S, B, rl, h⟩ => ?_
  unfold eIs at h
  cases e : S.env[i]? with
  | none => rw [e] at h; exact h.elim
  | some s =>
    rw [e] at h
    have x0 := rl.sl i s e
    cases s <;> first | exact h.elim | skip
    rename_i c' fs
    have h : PostR (T.sui a cls d) σ B (RelD (T.sui a cls d)) Q (.ok (.bl (isa c')) S) := h
    obtain ⟨a', C', d', ea, hC', ⟨ha, hcls, hd'⟩, hx⟩ := x0
    subst ha
    subst hd'
    obtain ⟨tE, kE⟩ := hk c' C' hC'
    refine ⟨.ref a', ea, C', v, cv, isa c', rfl, hcls.symm, tE, hcv, kE, ?_, h (.bl _) H B rl .rfl' (.bl _)⟩
    rcases hx with ⟨_, hx⟩ | ⟨dx, vs, edx, hg, rf⟩
    · exact .inl hx
    · exact .inr ⟨dx, vs, edx, (rl.g dx _ hg).ex rfl⟩
end Mir
set_option maxHeartbeats 4000000
/-! Mir18: an own error that is made by keywords. -/
namespace Mir
open PySem PySem.Spec PyProof.Rows L2 PySem.W PySem.HandSPX

section
variable {M : Model} {A : Around} {E : Value → Shared → Prop} {h : Heap} {gs : Array GenState} {dr : Drawn} {n : Nat} {os : OsState}
variable {nm q : Str} {C N : Addr} {bs bm bmB : List Value} {hd : Bool} {sn : List Str} {sub : List Value} {ab : Bool} {col : Option Bool} {dd : Option Addr} {k0 k1 k2 k3 k5 : Option Value} {B newId initId : String}
theorem kw_check_new (F : ExcBaseFacts B newId initId bmB) (hT : ∀ X : String, bm.contains (.type X) = bmB.contains (.type X)) {kw : List (Str × Value)} {Q : Unit → Shared → Prop}
    (hC : h.get? C = some (excClassObj nm q C N bs bm hd sn sub ab col dd k0 k1 k2 k3 k5 newId)) (hq : Q () ⟨h, gs, dr, n, os⟩) : wpAny M A (checkBuiltinCall newId ⟨[.ref C], kw⟩) Q E ⟨h, gs, dr, n, os⟩ := by
  have own : (Value.ref C :: bm).contains (.type B) = true := by rw [List.contains_cons, hT, F.hasB, Bool.or_true]
  have star := F.noStar
  simp only [checkBuiltinCall, F.newKind, F.newSplit, F.newRow]
  repeat (first | refine wpAny_loadPart_at hC ?_ | (refine wpAny_isSubtype_exc hC ?_; rw [own]) | refine wpAny_staticBase_exc hC ?_ | refine wpAny_madeBy_exc hC ?_ | simp only [bne_self_eq_false, Bool.false_eq_true, if_false] | wp_step)
  exact hq
end
section
variable {prog : Program} {w : World} {A : Around} {E : Value → Shared → Prop} {R : Result → Shared → Prop} {h : Heap} {gs : Array GenState} {dr : Drawn} {n : Nat} {os : OsState}
variable {nm q : Str} {C N : Addr} {bs bm bmB : List Value} {hd : Bool} {sn : List Str} {sub : List Value} {ab : Bool} {col : Option Bool} {dd : Option Addr} {k0 k1 k2 k3 k5 : Option Value} {B newId initId : String}
theorem kw_new (F : ExcBaseFacts B newId initId bmB) (hT : ∀ X : String, bm.contains (.type X) = bmB.contains (.type X)) {kw : List (Str × Value)}
    (hC : h.get? C = some (excClassObj nm q C N bs bm hd sn sub ab col dd k0 k1 k2 k3 k5 newId))
    (hq : R (.ok (.ret (.ref (h.objs.size + 1)))) ⟨(h.push (W.kdv_tup [])).push (excO C h.objs.size), gs, dr, n, os⟩) :
    codeAny (model prog w) A (.builtin newId ⟨[.ref C], kw⟩) R ⟨h, gs, dr, n, os⟩ := by
  have ends := F.ends
  have own : (Value.ref C :: bm).contains (.type B) = true := by rw [List.contains_cons, hT, F.hasB, Bool.or_true]
  have notA : (Value.ref C :: bm).contains (.type "AttributeError") = false := by rw [List.contains_cons, hT, F.noAttr]; rfl
  have notN : (Value.ref C :: bm).contains (.type "NameError") = false := by rw [List.contains_cons, hT, F.noName]; rfl
  refine codeAny_builtinAt F.entry ?_
  unfold Builtin.«BaseException.__new__»; refine PySem.wpAt_bind ?_
  show PySem.wpAt _ _ _ (stack >>= _) _ _ _
  refine PySem.wpAt_bind (PySem.wpAt_stack fun p below => PySem.wpAt_of_wpAny ?_)
  wp_walk
  refine PySem.wpAt_of_wpAny ?_
  rw [F.owner]
  repeat (first | with_reducible refine wpAny_madeHere_exc F.canon hC ?_ | with_reducible refine wpAny_loadPart_at hC ?_ | (with_reducible refine wpAny_isSubtype_exc hC ?_; first | rw [own] | rw [notA] | rw [notN]) | wp_step)
  show R _ _
  rw [Heap.size_push]; exact hq
theorem kw_type_call (F : ExcBaseFacts B newId initId bmB) (hT : ∀ X : String, bm.contains (.type X) = bmB.contains (.type X)) {kw : List (Str × Value)} {fI : Addr} {Q : Fin → Shared → Prop}
    (hC : h.get? C = some (excClassObj nm q C N bs bm hd sn sub ab col dd k0 k1 k2 k3 k5 newId))
    (hi : W.Looks (model prog w) h (typeLookup (.ref C) "__init__") (some (.ref fI))) (hb : ∀ self, W.Looks (model prog w) h (bindSpecial (.ref fI) self) (.ref fI, [self]))
    (hq : codeAny (model prog w) A (.call (.ref fI) ⟨[.ref (h.objs.size + 1)], kw⟩) (fun r s' => match r with | .ok (.ret v) => v = .none ∧ Q (.done (.ret (.ref (h.objs.size + 1)))) s' | .ok _ => False | .error e => E e s')
      ⟨(h.push (W.kdv_tup [])).push (excO C h.objs.size), gs, dr, n, os⟩) :
    wpAny (model prog w) A (Builtin.«type.__call__» ⟨[.ref C], kw⟩) Q E ⟨h, gs, dr, n, os⟩ := by
  repeat (first | with_reducible refine wpAny_loadPart_at hC ?_ | with_reducible refine wpAny_madeBy_exc hC ?_ | wp_step)
  refine codeAny_call_builtin_code (Code.quiet_builtin _ F.quiet) (kw_check_new F hT hC ?_)
  refine kw_new F hT hC ?_
  show wpAny _ _ _ _ _ _
  have kp : ∀ b o, h.get? b = some o → ((h.push (W.kdv_tup [])).push (excO C h.objs.size)).get? b = some o := fun b o e => Heap.get?_push_of_some _ (Heap.get?_push_of_some _ e)
  have hC1 := kp _ _ hC
  have got : ((h.push (W.kdv_tup [])).push (excO C h.objs.size)).get? (h.objs.size + 1) = some (excO C h.objs.size) := by heap_get
  have own : (Value.ref C :: bm).contains (.ref C) = true := by simp
  have i1 := hi.keeps kp
  have b1 := (hb (.ref (h.objs.size + 1))).keeps kp
  unfold isInstance
  repeat (first | with_reducible refine wpAny_loadPart_at got ?_ | (with_reducible refine wpAny_isSubtype_exc hC1 ?_; rw [own]) | wp_step)
  show wpAny _ _ (typeLookup (.ref C) _) _ _ _
  refine i1.at ?_
  refine wpAny_holding (wpAny_bind (b1.at ?_))
  refine wpAny_bind (wpAny_call (codeAny_mono hq fun r s' z => ?_))
  rcases r with e | (v | _ | _ | _) <;> first | exact z | exact z.elim | skip
  obtain ⟨rfl, z⟩ := z
  first
    | exact wpAny_pure (wpAny_pure z)
    | (wp_walk; exact z)
theorem kw_call (F : ExcBaseFacts B newId initId bmB) (hT : ∀ X : String, bm.contains (.type X) = bmB.contains (.type X)) {kw : List (Str × Value)} {fI : Addr}
    (hC : h.get? C = some (excClassObj nm q C N bs bm hd sn sub ab col dd k0 k1 k2 k3 k5 newId))
    (hi : W.Looks (model prog w) h (typeLookup (.ref C) "__init__") (some (.ref fI))) (hb : ∀ self, W.Looks (model prog w) h (bindSpecial (.ref fI) self) (.ref fI, [self]))
    (hq : codeAny (model prog w) (A.under (.builtin "type.__call__" ⟨[.ref C], kw⟩)) (.call (.ref fI) ⟨[.ref (h.objs.size + 1)], kw⟩) (W.InitBack (h.objs.size + 1) R) ⟨(h.push (W.kdv_tup [])).push (excO C h.objs.size), gs, dr, n, os⟩) :
    codeAny (model prog w) A (.call (.ref C) ⟨[], kw⟩) R ⟨h, gs, dr, n, os⟩ := by
  have f1 := tc_lookup
  have f2 := tc_bind (.ref C)
  have isT : (⟨h, gs, dr, n, os⟩ : Shared).TypeIs (.ref C) "type" := ⟨_, hC, rfl⟩
  refine codeAny_of_tree ?_
  show wpAny _ _ (callAny (.ref C) _) _ _ _
  repeat (any_goals (first | assumption | with_reducible refine wpAny_loadPart_at hC ?_ | wp_step))
  refine ⟨rfl, ?_⟩
  refine codeAny_call_builtin_at (Code.quiet_builtin _ (by decide +kernel)) entry_typeCall (wpAny_check_type_call_sub hC (kw_type_call F hT hC hi hb ?_))
  refine codeAny_mono hq fun r s' z => ?_
  rcases r with e | (v | _ | _ | _) <;> exact z
end
end Mir
set_option maxHeartbeats 4000000
/-! Mir19: a field of an error that is made by keywords. -/
namespace Mir
open PySem PySem.Spec PyProof.Rows L2 PySem.W PySem.HandSPX

/-- what C(k = v, ..) leaves, ks its keywords: the fields ns -/
def KwMade (prog : Program) (w : World) (K : Frag) (mg : Str → Option Value) (C : Addr) (ks ns : List Str) : Prop := ∀ {A : Around} {R : Result → Shared → Prop} {s : Shared} {mb : Str → Option Value} (ws : List Value), ws.length = ks.length →
    K.In s.heap → s.heap.Ns mainGlobals mg → s.heap.Ns builtinsNs mb → (∀ x : Str, x ≠ "__name__" → mb x = bootBuiltins x) → s.heap.NoLimit → A.depth + 1 < recursionLimit →
    (∀ h' tk e d m, ErrMade s.heap h' e C d m → (∀ f, f ∈ ns → m f = (ks.zip ws).lookup f) → R (.ok (.ret (.ref e))) { s with heap := h', toks := tk }) → codeAny (model prog w) A (.call (.ref C) ⟨[], ks.zip ws⟩) R s
section
variable {prog : Program} {w : World} {K : Frag} {mg : Str → Option Value} {C fI cda cc : Addr}
/-- the made one, from its __init__ -/
theorem kw_made {A : Around} {R : Result → Shared → Prop} {s : Shared} {mb : Str → Option Value} {kw : List (Str × Value)} {m : Str → Option Value} {qual : Str} {pA : Arguments} {pB : List Stmt} {pS : Scope} (T : ErrC prog K mg C cda cc) (TI : ErrI K C fI cda cc qual pA pB pS)
    (X : K.In s.heap) (hg : s.heap.Ns mainGlobals mg) (hbn : s.heap.Ns builtinsNs mb) (hbb : ∀ x : Str, x ≠ "__name__" → mb x = bootBuiltins x) (hlim : s.heap.NoLimit) (hroom : A.depth + 1 < recursionLimit)
    (hini : ∀ {A : Around} {R : Result → Shared → Prop} {s : Shared} {x t0 : Addr}, K.In s.heap → s.heap.Ns mainGlobals mg → s.heap.Ns builtinsNs mb → s.heap.NoLimit → s.heap.get? x = some (excO C t0) → K.lookup x = none → (x ≠ mainGlobals ∧ x ≠ builtinsNs) → A.depth < recursionLimit →
      (∀ h' tk dx t1, (∀ b o, b ≠ x → s.heap.get? b = some o → h'.get? b = some o) → s.heap.objs.size ≤ dx → dx ≠ x → h'.get? x = some { cls := .ref C, dict := some dx, data := .fields #[.ref t1, .none, .none, .none, .bool false, .none] } → h'.Ns1 dx m → R (.ok (.ret .none)) { s with heap := h', toks := tk }) →
      codeAny (model prog w) A (.call (.ref fI) ⟨[.ref x], kw⟩) R s)
    (hq : ∀ h' tk e d, ErrMade s.heap h' e C d m → R (.ok (.ret (.ref e))) { s with heap := h', toks := tk }) : codeAny (model prog w) A (.call (.ref C) ⟨[], kw⟩) R s := by
  obtain ⟨nm, q, N, bs, bm, sn, sub, ab, col, dd, k0, k1, k2, k3, k5, hC, hbm⟩ := T.cls
  obtain ⟨hp, g, dr, tk, os⟩ := s
  have kp : ∀ b o, hp.get? b = some o → ((hp.push (kdv_tup [])).push (excO C hp.objs.size)).get? b = some o := fun b o e => Heap.get?_push_of_some _ (Heap.get?_push_of_some _ e)
  have got : ((hp.push (kdv_tup [])).push (excO C hp.objs.size)).get? (hp.objs.size + 1) = some (excO C hp.objs.size) := by heap_get
  have fresh : K.lookup (hp.objs.size + 1) = none := by
    cases e : K.lookup (hp.objs.size + 1) with
    | none => rfl
    | some o =>
      have z : hp.get? (hp.objs.size + 1) = some o := X _ _ e
      exact absurd (Nat.lt_of_succ_lt (Heap.lt_size z)) (Nat.lt_irrefl _)
  have nsx : ∀ {b : Addr} {m : Str → Option Value}, hp.Ns b m → hp.objs.size + 1 ≠ b := fun hb z => by have := hb.lt; rw [← z] at this; exact absurd (Nat.lt_of_succ_lt this) (Nat.lt_irrefl _)
  refine kw_call F.excBase_ValueError (fun X => refsVE_contains X bm hbm) (X _ _ hC) (looks_findIn X TI.iC) (fun self => bind_fn X self TI.tC) ?_
  refine hini (s := ⟨(hp.push (kdv_tup [])).push (excO C hp.objs.size), g, dr, tk, os⟩) (X.keeps kp) (hg.keeps kp) (hbn.keeps kp) (hlim.keeps kp) got fresh ⟨nsx hg, nsx hbn⟩ ?_ fun h' tk' dx t1 k' dn dne hx hns => ?_
  · show A.depth + 1 < recursionLimit
    exact hroom
  · have old : ∀ b o, hp.get? b = some o → h'.get? b = some o := fun b o e => k' b o (Nat.ne_of_lt (Nat.lt_succ_of_lt (Heap.lt_size e))) (kp b o e)
    have z : hp.objs.size + 1 + 1 ≤ dx := by
      first
        | (simpa only [Heap.size_push] using dn)
        | exact dn
        | (have q := dn; rw [Heap.size_push, Heap.size_push] at q; exact q)
    exact ⟨rfl, hq h' tk' (hp.objs.size + 1) dx ⟨old, Nat.le_succ _, ⟨_, _, hx, rfl, rfl, rfl, rfl⟩, Nat.le_trans (Nat.le_trans (Nat.le_succ _) (Nat.le_succ _)) z, dne, hns⟩⟩
/-- one field -/
theorem kw_made1 {qual n1 : Str} {p1 p2 q0 q1 q2 q3 q4 q5 r1 r2 r3 r4 : Pos} (T : ErrC prog K mg C cda cc) (TI : ErrI K C fI cda cc qual (eA1 n1 p1 p2) [eSup [.Name n1 q3] q0 q1 q2 q4 q5, eSet n1 r1 r2 r3 r4] (eS1 n1)) (hn1 : Plain n1)
    (hbk : ∀ (kV doc pm : Value) (an : Option Addr) (ct x v : Value), bindArgs (ksFn "__init__" qual (eA1 n1 p1 p2) [eSup [.Name n1 q3] q0 q1 q2 q4 q5, eSet n1 r1 r2 r3 r4] (eS1 n1) .none kV doc pm an (.ref cda) ct cc) ⟨[x], [(n1, v)]⟩ = pure [(("self" : Str), x), (n1, v)]) (hsc : ∀ L : Addr, SupCall (ksEnv qual (eS1 n1) L fI (.ref cda) cc) q0 q1 q2 q4 [.Name n1 q3]) (hno : findIn K (.ref C) n1 = some none) :
    KwMade prog w K mg C [n1] [n1] := by
  intro A R s mb ws hl X hg hbn hbb hlim hroom hq
  obtain ⟨v, rfl⟩ : ∃ v, ws = [v] := by
    match ws, hl with
    | [v], _ => exact ⟨v, rfl⟩
  refine kw_made (mb := mb) (m := fun y => if y = n1 then some v else none) T TI X hg hbn hbb hlim hroom (fun X' hg' hbn' hlim' hx hnx hxg hr hq' => ?_) fun h' tk e d M => hq h' tk e d _ M fun f hf => ?_
  · exact err_init1 (v := v) (mb := mb) T TI hn1 (fun kV doc pm an ct => hbk kV doc pm an ct _ _) hsc hno X' hg' hbn' hbb hlim' hx hnx hxg hr hq'
  · obtain rfl := List.mem_singleton.mp hf
    show (if f = f then some v else none) = ([(f, v)] : List (Str × Value)).lookup f
    rw [if_pos rfl, look_eq]
/-- two fields, in either order -/
theorem kw_made2 {qual n1 n2 : Str} {ks : List Str} {p1 p2 p3 q0 q1 q2 q3 q4 q5 q6 r1 r2 r3 r4 u1 u2 u3 u4 : Pos} (T : ErrC prog K mg C cda cc) (TI : ErrI K C fI cda cc qual (eA2 n1 n2 p1 p2 p3) (eB2 n1 n2 q3 q6 q0 q1 q2 q4 q5 r1 r2 r3 r4 u1 u2 u3 u4) (eS2 n1 n2)) (hn1 : Plain n1) (hn2 : Plain n2) (h12 : n1 ≠ n2) (hks : ks = [n1, n2] ∨ ks = [n2, n1])
    (hbk : ∀ (kV doc pm : Value) (an : Option Addr) (ct x v v2 : Value), bindArgs (ksFn "__init__" qual (eA2 n1 n2 p1 p2 p3) (eB2 n1 n2 q3 q6 q0 q1 q2 q4 q5 r1 r2 r3 r4 u1 u2 u3 u4) (eS2 n1 n2) .none kV doc pm an (.ref cda) ct cc) ⟨[x], [(n1, v), (n2, v2)]⟩ = pure [(("self" : Str), x), (n1, v), (n2, v2)])
    (hbk2 : ∀ (kV doc pm : Value) (an : Option Addr) (ct x v v2 : Value), bindArgs (ksFn "__init__" qual (eA2 n1 n2 p1 p2 p3) (eB2 n1 n2 q3 q6 q0 q1 q2 q4 q5 r1 r2 r3 r4 u1 u2 u3 u4) (eS2 n1 n2) .none kV doc pm an (.ref cda) ct cc) ⟨[x], [(n2, v2), (n1, v)]⟩ = pure [(("self" : Str), x), (n1, v), (n2, v2)])
    (hsc : ∀ L : Addr, SupCall (ksEnv qual (eS2 n1 n2) L fI (.ref cda) cc) q0 q1 q2 q4 [.Name n1 q3, .Name n2 q6]) (hno : findIn K (.ref C) n1 = some none) (hno2 : findIn K (.ref C) n2 = some none) :
    KwMade prog w K mg C ks [n1, n2] := by
  intro A R s mb ws hl X hg hbn hbb hlim hroom hq
  obtain ⟨a, b, rfl⟩ : ∃ a b, ws = [a, b] := by
    have : ws.length = 2 := by rcases hks with h | h <;> (rw [h] at hl; exact hl)
    match ws, this with
    | [a, b], _ => exact ⟨a, b, rfl⟩
  rcases hks with rfl | rfl
  · refine kw_made (mb := mb) (m := fun y => if y = n2 then some b else if y = n1 then some a else none) T TI X hg hbn hbb hlim hroom (fun X' hg' hbn' hlim' hx hnx hxg hr hq' => ?_) fun h' tk e d M => hq h' tk e d _ M fun f hf => ?_
    · exact err_init2 (v := a) (v2 := b) (mb := mb) T TI hn1 hn2 h12 (fun kV doc pm an ct => hbk kV doc pm an ct _ _ _) hsc hno hno2 X' hg' hbn' hbb hlim' hx hnx hxg hr hq'
    · show (if f = n2 then some b else if f = n1 then some a else none) = ([(n1, a), (n2, b)] : List (Str × Value)).lookup f
      rcases List.mem_cons.mp hf with rfl | hf
      · rw [if_neg h12, if_pos rfl, look_eq]
      · obtain rfl := List.mem_singleton.mp hf
        rw [if_pos rfl, look_ne h12, look_eq]
  · refine kw_made (mb := mb) (m := fun y => if y = n2 then some a else if y = n1 then some b else none) T TI X hg hbn hbb hlim hroom (fun X' hg' hbn' hlim' hx hnx hxg hr hq' => ?_) fun h' tk e d M => hq h' tk e d _ M fun f hf => ?_
    · exact err_init2 (v := b) (v2 := a) (mb := mb) T TI hn1 hn2 h12 (fun kV doc pm an ct => hbk2 kV doc pm an ct _ _ _) hsc hno hno2 X' hg' hbn' hbb hlim' hx hnx hxg hr hq'
    · show (if f = n2 then some a else if f = n1 then some b else none) = ([(n2, a), (n1, b)] : List (Str × Value)).lookup f
      rcases List.mem_cons.mp hf with rfl | hf
      · rw [if_neg h12, if_pos rfl, look_ne (Ne.symm h12), look_eq]
      · obtain rfl := List.mem_singleton.mp hf
        rw [if_pos rfl, look_eq]
end
theorem zip_get {f : Str} {v : V} : ∀ {ks : List Str} {zs : List V} {ws : List Value}, Vals zs ws → (ks.zip zs).lookup f = some v → ∃ u, (ks.zip ws).lookup f = some u ∧ RelV v u
  | [], _, _, _, e => by cases e
  | _ :: _, _, _, .nil, e => by cases e
  | k :: ks, z :: zs, u :: ws, .cons r rs, e => by
    have e : ((k, z) :: ks.zip zs).lookup f = some v := e
    show ∃ u', ((k, u) :: ks.zip ws).lookup f = some u' ∧ RelV v u'
    rw [List.lookup_cons] at e ⊢
    cases h : f == k with
    | true => rw [h] at e; cases e; exact ⟨u, rfl, r⟩
    | false => rw [h] at e; exact zip_get rs e
/-- C(k = v, ..).f, C an own error -/
theorem pe_kwf {X : Cx} {C cda cc : Addr} {ks ns : List Str} {x f : Str} {p pos pos' : Pos} {k : Nat} {kws : List Keyword} {tk : TA} (T : ErrC X.prog X.K X.mg C cda cc) (tx : XfC X.K C) (hmade : KwMade X.prog X.w X.K X.mg C ks ns) (hf : f ∈ ns) (hno : findIn X.K (.ref C) f = some none)
    (hr : Room k X.A) (hg : Gl X x) (hm : X.mg x = some (.ref C)) (hkw : PK X kws tk) (hall : (backToKw pos (keywordEach kws X.env)).all (·.1.isSome) = true := by rfl) (hks : (backToKw pos (keywordEach kws X.env)).filterMap (·.1) = ks := by rfl)
    (hdb : (x == ("__debug__" : Str)) = false := by decide) (hpl : ((backTo pos (starEach [] X.env)).any (·.1) || (backToKw pos (keywordEach kws X.env)).any (·.1.isNone)) = false := by rfl)
    (hb : attributeBase (.Call (.Name x p) [] kws pos) f X.env (eval (.Call (.Name x p) [] kws pos) X.env) = eval (.Call (.Name x p) [] kws pos) X.env := by rfl) :
    PE X (.Attribute (.Call (.Name x p) [] kws pos) f pos') (fun σ H Q => tk σ H fun zs H1 => zs.length = ks.length ∧ ∃ v, (ks.zip zs).lookup f = some v ∧ Q v H1) := by
  refine ⟨fun pins s σ H Q I h => ?_⟩
  refine attr_of hb ?_
  refine wpAny_Call_Name_kw (ld_glob I hg hm ?_ hdb)
  refine PySem.W.callWith_KW0 (h₀ := X.base) I.ok.mod.kin T.kC hall (thn (hkw.run pos pins s σ H _ I h) fun ws s1 ⟨zs, H1, I1, rz, l1, v, lv, q⟩ => ⟨I1.kIn, ?_⟩) hpl
  rw [hks]
  show wpAny _ _ (PySem.call (.ref C) [] (ks.zip ws)) _ _ _
  have hlim := I1.nolimit
  have hgl : s1.heap.Ns mainGlobals X.mg := I1.ok.mod.glob.keeps I1.bk
  obtain ⟨mb, hb1, hb2⟩ := I1.ok.mod.blt
  have hbn := hb1.keeps I1.bk
  obtain ⟨u, hu, ru⟩ := zip_get rz lv
  refine wpAny_call (hmade ws (by rw [← rz.length]; exact l1) I1.kIn hgl hbn hb2 hlim (by have := hr.dp; omega) fun h' tk' e d m M hmf => ?_)
  obtain ⟨oe, fv, hoe, hc, hd, hdat, h1⟩ := M.obj
  have I2 : Inv X pins σ H1 { s1 with heap := h', toks := tk' } := I1.kept M.keep
  obtain ⟨od, ho, hl⟩ := lookIn_ns M.ns
  have J : PySem.W.InstAt h' e oe C (some od) := ⟨hoe, hc, by unfold PySem.W.notCls; rw [hdat] <;> rfl, by rw [hd]; exact ho⟩
  show wpAny _ _ (getAttr (.ref e) f true) _ _ _
  exact HandSPX.exc_get I2.kIn J tx.ga tx.gg tx.exC (PySem.W.findObj_own tx.hdC hno rfl (by rw [hl, hmf f hf, hu])) (handed_of ru) ⟨v, H1, I2.tok _, ru, q⟩
/-- .. in the mirror -/
def eKwf (ks : List Str) (f : Str) (as : Exps) : Exp := fun S => (as S).bind fun ds S1 => if ds.length = ks.length then liftO S1 ((ks.zip ds).lookup f) else .st
theorem RepL.zipget {T : Cfg} {B : Bd} {f : Str} {d : D} : ∀ {ks : List Str} {ds : List D} {vs : List V}, RepL T B ds vs → (ks.zip ds).lookup f = some d → ∃ v, (ks.zip vs).lookup f = some v ∧ Rep T B d v := fun r e => (RepL.zip r).get e
theorem r_kwf {X : Cx} {T : Su} {ks : List Str} {f : Str} {e : Expr} {as : Exps} (he : PE X e (fun σ H Q => TAm T as σ H fun zs H1 => zs.length = ks.length ∧ ∃ v, (ks.zip zs).lookup f = some v ∧ Q v H1)) : PE X e (TEm T (eKwf ks f as)) := peI he fun σ H Q ⟨S, B, rl, h⟩ => by
  refine ⟨S, B, rl, PostR.bind h fun ds S1 vs H1 B1 r1 l1 q1 h1 => ?_⟩
  by_cases c : ds.length = ks.length
  · rw [if_pos c] at h1
    obtain ⟨d, ed, kk⟩ := liftO_post h1
    obtain ⟨v, ev, rv⟩ := RepL.zipget q1 ed
    exact ⟨by rw [← q1.length]; exact c, v, ev, kk v H1 B1 r1 .rfl' rv⟩
  · rw [if_neg c] at h1; exact h1.elim
end Mir
set_option maxHeartbeats 4000000
/-! Mir20: keywords' values; a field of a caught error of one of several classes. -/
namespace Mir
open PySem PySem.Spec PyProof.Rows L2 PySem.W

section
variable {X : Cx} {T : Su}
theorem PK.imp {kws : List Keyword} {t t' : TA} (h : PK X kws t) (k : ∀ σ H Q, t' σ H Q → t σ H Q) : PK X kws t' := ⟨fun pos pins s σ H Q I q => h.run pos pins s σ H Q I (k σ H Q q)⟩
theorem kw_nil : PK X [] (TAm T aNil) := PK.imp pk_nil fun σ H Q ⟨S, B, rl, h⟩ => h [] H B rl .rfl' .nil
theorem kw_cons {e : Expr} {nm : Option Str} {kpos : Pos} {kws : List Keyword} {ee : Exp} {ees : Exps} (ha : PE X e (TEm T ee)) (hr : PK X kws (TAm T ees)) : PK X (⟨nm, e, kpos⟩ :: kws) (TAm T (aCons ee ees)) := PK.imp (pk_cons ha hr) fun σ H Q h => acons_of h
end
/-- e.f, e of one of the classes cs -/
def eXfs (i : Nat) (cs : List Str) (f : Str) : Exp := fun S => match S.env[i]? with
  | some (.xc c fs) => if c ∈ cs then liftO S (fs.lookup f) else .st
  | _ => .st
theorem r_xfs {X : Cx} {T : Su} {i : Nat} {x f : Str} {cs : List Str} {a : Addr} {oe : Obj} {cls : Value} {d : Option Addr} {pn : List (Addr × Obj)} {pos pos' : Pos} (hcs : ∀ c, c ∈ cs → ∀ C, T.cls c = some C → XfC X.K C ∧ PySem.W.findIn X.K (.ref C) f = some none)
    (hz : Zc cls d oe) (hf : ∃ vs, oe.data = .fields vs) (hN : X.N[i]? = some x) (hv : Vis X.env.scope x) (hd : (x == ("__debug__" : Str)) = false := by decide) (hcd : (x == ("__classdict__" : Str)) = false := by decide)
    (hb : attributeBase (.Name x pos') f X.env (eval (.Name x pos') X.env) = eval (.Name x pos') X.env := by rfl) :
    PE (X.suite a ((a, oe) :: pn)) (.Attribute (.Name x pos') f pos) (TEm (T.sui a cls d) (eXfs i cs f)) := by
  refine ⟨fun pins s σ H Q I ⟨S, B, rl, h⟩ => ?_⟩
  unfold eXfs at h
  cases e : S.env[i]? with
  | none => rw [e] at h; exact h.elim
  | some sl =>
    rw [e] at h
    have x0 := rl.sl i sl e
    cases sl <;> first | exact h.elim | skip
    rename_i c' fs
    have h : PostR (T.sui a cls d) σ B (RelD (T.sui a cls d)) Q (if c' ∈ cs then liftO S (fs.lookup f) else .st) := h
    by_cases ec : c' ∈ cs
    · rw [if_pos ec] at h
      obtain ⟨dd, ed, k⟩ := liftO_post h
      obtain ⟨a', C', d', ea, hC', ⟨ha, hcls, hd'⟩, hx⟩ := x0
      subst ha
      subst hd'
      obtain ⟨tx, hno⟩ := hcs c' ec C' hC'
      rcases hx with ⟨hx, _⟩ | ⟨dx, vs, edx, hg, rf⟩
      · subst hx; cases ed
      · obtain ⟨v, ev, rv⟩ := rf.get ed
        exact (pe_xf tx hno hz hf (pe_var (X := X.suite a' ((a', oe) :: pn)) hN hv hd hcd) hb).run pins s σ H Q I ⟨.ref a', ea, rfl, hcls.symm, dx, vs, v, edx, (rl.g dx _ hg).ex rfl, ev, k v H B rl .rfl' rv⟩
    · rw [if_neg ec] at h; exact h.elim
/-! ### facts by classes -/
def XfA (T : Cfg) (K : Frag) (f : Str) (cs : List Str) : Prop := ∀ c, c ∈ cs → ∀ C, T.cls c = some C → XfC K C ∧ PySem.W.findIn K (.ref C) f = some none
theorem xfa_nil {T : Cfg} {K : Frag} {f : Str} : XfA T K f [] := fun _ h => by cases h
theorem xfa_cons {T : Cfg} {K : Frag} {f c : Str} {C : Addr} {cs : List Str} (h : T.cls c = some C) (tx : XfC K C) (hno : PySem.W.findIn K (.ref C) f = some none) (r : XfA T K f cs) : XfA T K f (c :: cs) := fun c' hc C' hC' => by
  rcases List.mem_cons.mp hc with rfl | hc
  · rw [h] at hC'; cases hC'; exact ⟨tx, hno⟩
  · exact r c' hc C' hC'
theorem isk_nil {K : Frag} {cv : Value} {isa : Str → Bool} : ∀ c C, ([] : List (Str × Addr)).lookup c = some C → ExcC K C ∧ kitOne K (.ref C) cv = some (isa c) := fun _ _ h => by cases h
theorem isk_cons {K : Frag} {cv : Value} {isa : Str → Bool} {c : Str} {C : Addr} {l : List (Str × Addr)} (h1 : ExcC K C) (h2 : kitOne K (.ref C) cv = some (isa c)) (r : ∀ c C, l.lookup c = some C → ExcC K C ∧ kitOne K (.ref C) cv = some (isa c)) : ∀ c' C', ((c, C) :: l).lookup c' = some C' → ExcC K C' ∧ kitOne K (.ref C') cv = some (isa c') := fun c' C' h => by
  rw [List.lookup_cons] at h
  cases e : c' == c with
  | true =>
    rw [e] at h
    cases h
    have : c' = c := by simpa using e
    subst this
    exact ⟨h1, h2⟩
  | false => rw [e] at h; exact r c' C' h
end Mir
set_option maxHeartbeats 4000000
/-! Mir21: C(), an own error without __init__. -/
namespace Mir
open PySem PySem.Spec PyProof.Rows L2 PySem.W
theorem pmk_own0 {X : Cx} {C : Addr} {bmB : List Value} {B newId initId : String} {x : Str} {p pos : Pos} (F : ExcBaseFacts B newId initId bmB) (q : PySem.W.excIn X.K C bmB newId = true) (gC : X.mg x = some (.ref C)) (kC : PySem.W.keepIn X.K (.ref C) = true) (r : Raises X (.ref C)) (hg : Gl X x)
    (hdb : (x == ("__debug__" : Str)) = false := by decide) (hpl : ((backTo pos (starEach [] X.env)).any (·.1) || (backToKw pos (keywordEach [] X.env)).any (·.1.isNone)) = false := by rfl) : PMk X (.Call (.Name x p) [] [] pos) (fun _ H Q => Q (.ref C) none H) := by
  intro pins s σ H Q I h
  refine wpAny_Call_Name_kw (ld_glob I hg gC ?_ hdb)
  refine PySem.W.callWith_KW0 (h₀ := X.base) (kws := []) I.ok.mod.kin kC (by rfl) ?_ hpl
  refine wpAny_evalAll_nil ⟨I.kIn, ?_⟩
  show wpAny _ _ (PySem.call (.ref C) []) _ _ _
  obtain ⟨bm, N, nm, qn, bs, hdct, sn, sub, ab, col, dd, k0, k1, k2, k3, k5, mN, hC, hN, hni, T⟩ := exc_obj I.kIn q
  refine wpAny_call_exc_subT F T hC hN hni (fun h' e hm => ?_) (by show 0 ≤ sizeLine; exact Nat.zero_le _)
  exact mk_of I hm r h (I.hok.gone hm.new)
end Mir
/-! Pl1: how mirrors run, in plain Lean. -/
namespace Mir
open PySem PySem.Spec PyProof.Rows L2

@[simp] theorem bind_ok {α β : Type} (a : α) (S : MS) (f : α → MS → R β) : (R.ok a S).bind f = f a S := rfl
@[simp] theorem bind_ex {α β : Type} (c : Str) (fs : List (Str × D)) (S : MS) (f : α → MS → R β) : (R.ex c fs S : R α).bind f = .ex c fs S := rfl
@[simp] theorem put_eq (l : List Sl) (st : List Cl) (i : Nat) (s : Sl) : (⟨l, st⟩ : MS).put i s = ⟨l.set i s, st⟩ := rfl
@[simp] theorem eVar_eq (i : Nat) (l : List Sl) (st : List Cl) : eVar i ⟨l, st⟩ = match l[i]? with
  | some (.va d) => .ok d ⟨l, st⟩
  | some (.ol ds) => .ok (.lst ds) ⟨l.set i (.va (.lst ds)), st⟩
  | some (.od t kvs) => .ok (.dic t kvs) ⟨l.set i (.va (.dic t kvs)), st⟩
  | some (.oi c fs) => .ok (.ins c fs) ⟨l.set i (.va (.ins c fs)), st⟩
  | _ => .st := rfl
@[simp] theorem eC_eq (d : D) (S : MS) : eC d S = .ok d S := rfl
@[simp] theorem liftO_some (S : MS) (d : D) : liftO S (some d) = .ok d S := rfl
@[simp] theorem eBin_eq (g : D → D → Option D) (a b : Exp) (S : MS) : eBin g a b S = (a S).bind fun x S1 => (b S1).bind fun y S2 => liftO S2 (g x y) := rfl
@[simp] theorem eUn_eq (g : D → Option D) (a : Exp) (S : MS) : eUn g a S = (a S).bind fun x S1 => liftO S1 (g x) := rfl
@[simp] theorem eB_eq (g : List D → Option D) (as : Exps) (S : MS) : eB g as S = (as S).bind fun xs S1 => liftO S1 (g xs) := rfl
@[simp] theorem aNil_eq (S : MS) : aNil S = .ok [] S := rfl
@[simp] theorem aCons_eq (a : Exp) (as : Exps) (S : MS) : aCons a as S = (a S).bind fun x S1 => (as S1).bind fun xs S2 => .ok (x :: xs) S2 := rfl
@[simp] theorem eTup_eq (as : Exps) (S : MS) : eTup as S = (as S).bind fun xs S1 => if xs.length ≤ sizeLine then .ok (.tup xs) S1 else .st := rfl
@[simp] theorem eLst_eq (as : Exps) (S : MS) : eLst as S = (as S).bind fun xs S1 => if xs.length ≤ sizeLine then .ok (.lst xs) S1 else .st := rfl
@[simp] theorem eCall_eq (n : Nat) (f : Fn) (as : Exps) (S : MS) : eCall n f as S = (as S).bind fun ds S1 => if ds.length = n then callM f ds S1 else .st := rfl
theorem callM_ok {f : Fn} {ds : List D} {l : List Sl} {st st' : List Cl} {d : D} (h : f ds st = .ok d ⟨[], st'⟩) : callM f ds ⟨l, st⟩ = .ok d ⟨l, st'⟩ := by
  unfold callM; rw [show (⟨l, st⟩ : MS).sto = st from rfl, h]
@[simp] theorem tOf_eq (e : Exp) (S : MS) : tOf e S = (e S).bind fun d S1 => match d with | .bl b => .ok b S1 | _ => .st := rfl
@[simp] theorem tAndM_eq (a b : Tst) (S : MS) : tAndM a b S = (a S).bind fun x S1 => if x = true then b S1 else .ok false S1 := rfl
@[simp] theorem tOrM_eq (a b : Tst) (S : MS) : tOrM a b S = (a S).bind fun x S1 => if x = true then .ok true S1 else b S1 := rfl
@[simp] theorem tNotM_eq (a : Tst) (S : MS) : tNotM a S = (a S).bind fun x S1 => .ok (!x) S1 := rfl
@[simp] theorem eAnd_eq (a b : Exp) (S : MS) : eAnd a b S = (a S).bind fun d S1 => match d with | .bl true => b S1 | .bl false => .ok (.bl false) S1 | _ => .st := rfl
@[simp] theorem eOr_eq (a b : Exp) (S : MS) : eOr a b S = (a S).bind fun d S1 => match d with | .bl true => .ok (.bl true) S1 | .bl false => b S1 | _ => .st := rfl
@[simp] theorem eNot_eq (a : Exp) (S : MS) : eNot a S = (a S).bind fun d S1 => match d with | .bl x => .ok (.bl (!x)) S1 | _ => .st := rfl
@[simp] theorem eIf_eq (t : Tst) (a b : Exp) (S : MS) : eIf t a b S = (t S).bind fun x S1 => if x = true then a S1 else b S1 := rfl
@[simp] theorem sSeq_eq (a b : Stm) (S : MS) : sSeq a b S = (a S).bind fun f S1 => match f with | .nx => b S1 | f => .ok f S1 := rfl
@[simp] theorem sRet_eq (e : Exp) (S : MS) : sRet e S = (e S).bind fun d S1 => .ok (.rt d) S1 := rfl
@[simp] theorem sIf_eq (t : Tst) (a b : Stm) (S : MS) : sIf t a b S = (t S).bind fun x S1 => if x = true then a S1 else b S1 := rfl
@[simp] theorem sNil_eq (S : MS) : sNil S = .ok .nx S := rfl
@[simp] theorem sExpr_eq (e : Exp) (S : MS) : sExpr e S = (e S).bind fun _ S1 => .ok .nx S1 := rfl
@[simp] theorem sSet_eq (i : Nat) (e : Exp) (S : MS) : sSet i e S = (e S).bind fun d S1 => if i < S1.env.length then .ok .nx (S1.put i (.va d)) else .st := rfl
@[simp] theorem sOwn_eq (i : Nat) (f : Frs) (S : MS) : sOwn i f S = (f S).bind fun s S1 => if i < S1.env.length then .ok .nx (S1.put i s) else .st := rfl
@[simp] theorem sAsg_eq (g : Tgt) (e : Exp) (S : MS) : sAsg g e S = (e S).bind fun d S1 => liftG (g d S1) := rfl
@[simp] theorem liftG_some (S : MS) : liftG (some S) = .ok .nx S := rfl
@[simp] theorem gNm_eq (i : Nat) (d : D) (S : MS) : gNm i d S = if i < S.env.length then some (S.put i (.va d)) else none := rfl
@[simp] theorem gTp_eq (n : Nat) (gs : Tgts) (ds : List D) (S : MS) : gTp n gs (.tup ds) S = if ds.length = n then gs ds S else none := rfl
@[simp] theorem gsCons_eq (g : Tgt) (gs : Tgts) (d : D) (ds : List D) (S : MS) : gsCons g gs (d :: ds) S = (g d S).bind fun S1 => gs ds S1 := rfl
@[simp] theorem gsNil_eq (S : MS) : gsNil [] S = some S := rfl
@[simp] theorem sPar2_eq (i j : Nat) (as : Exps) (S : MS) : sPar2 i j as S = (as S).bind fun ds S1 => match ds with
  | [a, b] => if i < S1.env.length ∧ j < S1.env.length then .ok .nx ((S1.put i (.va a)).put j (.va b)) else .st
  | _ => .st := rfl
@[simp] theorem eFr_eq (f : Frs) (S : MS) : eFr f S = (f S).bind fun s S1 => match s with | .ol ds => .ok (.lst ds) S1 | .od t kvs => .ok (.dic t kvs) S1 | _ => .st := rfl
@[simp] theorem fLst_eq (as : Exps) (S : MS) : fLst as S = (as S).bind fun xs S1 => if xs.length ≤ sizeLine then .ok (.ol xs) S1 else .st := rfl
@[simp] theorem eCel_eq (f : Frs) (S : MS) : eCel f S = (f S).bind fun s S1 => match s.cl with | some c => .ok (.cel S1.sto.length) ⟨S1.env, S1.sto ++ [c]⟩ | none => .st := rfl
@[simp] theorem cl_ol (ds : List D) : (Sl.ol ds).cl = some (.l ds) := rfl
@[simp] theorem sFor_eq (its : Exps) (g : Tgt) (b : Stm) (S : MS) : sFor its g b S = (its S).bind fun ds S1 => forL g b ds S1 := rfl
@[simp] theorem iSeq_eq (e : Exp) (S : MS) : iSeq e S = (e S).bind fun d S1 => liftL S1 (iSeqD d) := rfl
@[simp] theorem liftL_some (S : MS) (ds : List D) : liftL S (some ds) = .ok ds S := rfl
@[simp] theorem iSeqD_l (ds : List D) : iSeqD (.lst ds) = some ds := rfl
@[simp] theorem iSeqD_t (ds : List D) : iSeqD (.tup ds) = some ds := rfl
theorem p62 : (2 : Int) ^ 62 = 4611686018427387904 := by decide
theorem range1 {as : Exps} {S S1 : MS} {j : Int} (h : as S = .ok [.int j] S1) (h1 : -1000000000000 ≤ j) (h2 : j ≤ 1000000000000) : iRange1 as S = .ok (rngD 0 j.toNat) S1 := by
  unfold iRange1
  rw [h, bind_ok]
  show (if -(2 ^ 62) ≤ j ∧ j < 2 ^ 62 then R.ok (rngD 0 j.toNat) S1 else .st) = _
  rw [if_pos (by rw [p62]; omega)]
theorem range2 {as : Exps} {S S1 : MS} {i j : Int} (h : as S = .ok [.int i, .int j] S1) (h1 : -1000000000000 ≤ i) (h2 : i ≤ 1000000000000) (h3 : -1000000000000 ≤ j) (h4 : j ≤ 1000000000000) : iRange2 as S = .ok (rngD i (j - i).toNat) S1 := by
  unfold iRange2
  rw [h, bind_ok]
  show (if -(2 ^ 62) ≤ i ∧ i < 2 ^ 62 ∧ -(2 ^ 62) ≤ j ∧ j < 2 ^ 62 then R.ok (rngD i (j - i).toNat) S1 else .st) = _
  rw [if_pos (by rw [p62]; omega)]
@[simp] theorem len_line {n : Nat} : (n ≤ sizeLine) = (n ≤ 16777216) := by rw [sizeLine_eq]
/-- a body's end as a call's -/
def fin : R Fl → R D
  | .ok (.rt d) S => .ok d ⟨[], S.sto⟩
  | .ok .nx S => .ok .non ⟨[], S.sto⟩
  | .ok _ _ => .st
  | .ex c fs S => .ex c fs ⟨[], S.sto⟩
  | .st => .st
@[simp] theorem fin_rt (d : D) (S : MS) : fin (.ok (.rt d) S) = .ok d ⟨[], S.sto⟩ := rfl
@[simp] theorem fin_ex (c : Str) (fs : List (Str × D)) (S : MS) : fin (.ex c fs S) = .ex c fs ⟨[], S.sto⟩ := rfl
theorem fnM_eq (n : Nat) (m : Stm) (ds : List D) (st : List Cl) : fnM n m ds st = fin (m ⟨ds.map Sl.va ++ List.replicate (n - ds.length) .un, st⟩) := by
  unfold fnM fin
  cases m ⟨ds.map Sl.va ++ List.replicate (n - ds.length) .un, st⟩ with
  | ok fl S => cases fl <;> rfl
  | ex c fs S => rfl
  | st => rfl
theorem seq_nx {a b : Stm} {S S1 : MS} (h : a S = .ok .nx S1) : sSeq a b S = b S1 := by
  show (a S).bind _ = _
  rw [h]; rfl
theorem seq_rt {a b : Stm} {S S1 : MS} {d : D} (h : a S = .ok (.rt d) S1) : sSeq a b S = .ok (.rt d) S1 := by
  show (a S).bind _ = _
  rw [h]; rfl
theorem atI_nat {α : Type} (xs : List α) (k : Nat) : atI xs (k : Int) = xs[k]? := by
  unfold atI ixN
  rw [if_pos (Int.natCast_nonneg k)]
  by_cases h : k < xs.length
  · rw [if_pos (by omega)]; rfl
  · rw [if_neg (by omega), List.getElem?_eq_none (by omega)]; rfl
/-- a target name and a pure test, a pure item: what a comprehension makes -/
theorem lc_pure {k : Nat} {t : Tst} {e : Exp} {l : List Sl} {st : List Cl} (p : D → Bool) (f : D → D) : ∀ (ds : List D) (acc : List D), k < l.length → wipeL l [k] = l →
    (∀ d ∈ ds, t ⟨l.set k (.va d), st⟩ = .ok (p d) ⟨l.set k (.va d), st⟩) → (∀ d ∈ ds, p d = true → e ⟨l.set k (.va d), st⟩ = .ok (f d) ⟨l.set k (.va d), st⟩) → acc.length + ds.length ≤ sizeLine →
    lcL [k] (gNm k) t e ds ⟨l, st⟩ acc = .ok (acc ++ (ds.filter p).map f) ⟨l, st⟩
  | [], acc, _, _, _, _, _ => by simp [lcL]
  | d :: ds, acc, hk, hw, ht, he, hz => by
    have w : (⟨l.set k (.va d), st⟩ : MS).wipe [k] = ⟨l, st⟩ := by
      show (⟨(l.set k (.va d)).set k .un, st⟩ : MS) = ⟨l, st⟩
      rw [List.set_set]
      exact congrArg (fun l => (⟨l, st⟩ : MS)) hw
    have ht1 := ht d List.mem_cons_self
    rw [List.length_cons] at hz
    unfold lcL
    simp only [gNm_eq, if_pos (show k < (⟨l, st⟩ : MS).env.length from hk), put_eq, ht1]
    cases hp : p d with
    | false =>
      simp only
      rw [w, lc_pure p f ds acc hk hw (fun d h => ht d (List.mem_cons_of_mem _ h)) (fun d h => he d (List.mem_cons_of_mem _ h)) (by omega)]
      simp [List.filter_cons, hp]
    | true =>
      simp only [he d List.mem_cons_self hp]
      rw [if_pos (by omega), w, lc_pure p f ds (acc ++ [f d]) hk hw (fun d h => ht d (List.mem_cons_of_mem _ h)) (fun d h => he d (List.mem_cons_of_mem _ h)) (by rw [List.length_append, List.length_singleton]; omega)]
      simp [List.filter_cons, hp]
theorem fLc_pure {k : Nat} {its : Exps} {t : Tst} {e : Exp} {l : List Sl} {st st1 : List Cl} {S : MS} {ds : List D} (p : D → Bool) (f : D → D) (hi : its S = .ok ds ⟨l, st⟩) (hk : k < l.length) (hd : ((l[k]?).getD .un).dead = true)
    (ht : ∀ d ∈ ds, t ⟨l.set k (.va d), st⟩ = .ok (p d) ⟨l.set k (.va d), st⟩) (he : ∀ d ∈ ds, p d = true → e ⟨l.set k (.va d), st⟩ = .ok (f d) ⟨l.set k (.va d), st⟩) (hz : ds.length ≤ sizeLine) :
    fLc [k] its (gNm k) t e S = .ok (.ol ((ds.filter p).map f)) ⟨l, st⟩ := by
  unfold fLc
  rw [hi, bind_ok]
  have h1 : ([k].all fun i => (((⟨l, st⟩ : MS).env[i]?).getD .un).dead) = true := by simpa using hd
  rw [if_pos h1]
  have e1 : (⟨l, st⟩ : MS).wipe [k] = ⟨l.set k .un, st⟩ := rfl
  have e2 : ∀ d : D, (l.set k Sl.un).set k (.va d) = l.set k (.va d) := fun d => List.set_set ..
  rw [e1, lc_pure p f ds [] (by simpa using hk) (by show (l.set k Sl.un).set k .un = _; rw [List.set_set]) (fun d h => by rw [e2]; exact ht d h) (fun d h hp => by rw [e2]; exact he d h hp) (by simpa using hz)]
  simp only [bind_ok, List.nil_append]
  have e3 : (⟨l.set k Sl.un, st⟩ : MS).back ⟨l, st⟩ [k] = ⟨l, st⟩ := by
    show (⟨(l.set k Sl.un).set k ((l[k]?).getD .un), st⟩ : MS) = ⟨l, st⟩
    rw [List.set_set, List.getElem?_eq_getElem hk]
    show (⟨l.set k l[k], st⟩ : MS) = _
    rw [List.set_getElem_self]
  rw [e3]
/-- a for whose turns go on -/
theorem for_nx {g : Tgt} {b : Stm} (Inv : List D → MS → Prop) : ∀ (ds : List D) (S : MS), Inv ds S → (∀ d r S, Inv (d :: r) S → ∃ S1 S2, g d S = some S1 ∧ b S1 = .ok .nx S2 ∧ Inv r S2) → ∃ S2, forL g b ds S = .ok .nx S2 ∧ Inv [] S2
  | [], S, h, _ => ⟨S, rfl, h⟩
  | d :: ds, S, h, k => by
    obtain ⟨S1, S2, e1, e2, h2⟩ := k d ds S h
    obtain ⟨S3, e3, h3⟩ := for_nx Inv ds S2 h2 k
    refine ⟨S3, ?_, h3⟩
    unfold forL
    rw [e1]
    simp only [e2]
    exact e3
/-- the same by the turn -/
theorem for_ix {g : Tgt} {b : Stm} (Inv : Nat → MS → Prop) (ds : List D) {S : MS} (h : Inv 0 S) (k : ∀ i d S, ds[i]? = some d → Inv i S → ∃ S1 S2, g d S = some S1 ∧ b S1 = .ok .nx S2 ∧ Inv (i + 1) S2) : ∃ S2, forL g b ds S = .ok .nx S2 ∧ Inv ds.length S2 := by
  obtain ⟨S2, e, h2⟩ := for_nx (g := g) (b := b) (fun r S => ∃ i, r = ds.drop i ∧ i ≤ ds.length ∧ Inv i S) ds S ⟨0, rfl, Nat.zero_le _, h⟩ fun d r S ⟨i, e, hi, h⟩ => by
    have hl : i < ds.length := by
      rcases Nat.lt_or_ge i ds.length with h | h
      · exact h
      · rw [List.drop_eq_nil_of_le h] at e; cases e
    rw [List.drop_eq_getElem_cons hl] at e
    cases e
    obtain ⟨S1, S2, e1, e2, h2⟩ := k i ds[i] S (List.getElem?_eq_getElem hl) h
    exact ⟨S1, S2, e1, e2, i + 1, rfl, hl, h2⟩
  obtain ⟨i, e1, hi, h3⟩ := h2
  have : i = ds.length := by
    have := congrArg List.length e1
    rw [List.length_drop] at this
    simp at this
    omega
  exact ⟨S2, e, this ▸ h3⟩
theorem rngD_get {lo : Int} {n i : Nat} {d : D} (h : (rngD lo n)[i]? = some d) : i < n ∧ d = .int (lo + (i : Nat)) := by
  unfold rngD at h
  rw [List.getElem?_map] at h
  obtain ⟨c, ec, ed⟩ := Option.map_eq_some_iff.mp h
  have hi : i < n := by
    have := (List.getElem?_eq_some_iff.mp ec).1
    simpa using this
  rw [List.getElem?_range hi] at ec
  cases ec
  exact ⟨hi, ed.symm⟩
@[simp] theorem rngD_length (lo : Int) (n : Nat) : (rngD lo n).length = n := by simp [rngD]
@[simp] theorem lt_ii (i j : Int) : ltO (.int i) (.int j) = some (.bl (decide (i < j))) := rfl
@[simp] theorem le_ii (i j : Int) : leO (.int i) (.int j) = some (.bl (decide (i ≤ j))) := rfl
@[simp] theorem gt_ii (i j : Int) : gtO (.int i) (.int j) = some (.bl (decide (j < i))) := rfl
@[simp] theorem ge_ii (i j : Int) : geO (.int i) (.int j) = some (.bl (decide (j ≤ i))) := rfl
@[simp] theorem add_ii (i j : Int) : addO (.int i) (.int j) = some (.int (i + j)) := rfl
@[simp] theorem sub_ii (i j : Int) : subO (.int i) (.int j) = some (.int (i - j)) := rfl
@[simp] theorem neg_i (i : Int) : negO (.int i) = some (.int (-i)) := rfl
@[simp] theorem toInt_i (i : Int) : toIntO (.int i) = some (.int i) := rfl
@[simp] theorem one_1 (g : D → Option D) (d : D) : one g [d] = g d := rfl
@[simp] theorem oneTwo_1 (g : D → Option D) (h : D → D → Option D) (d : D) : oneTwo g h [d] = g d := rfl
@[simp] theorem oneTwo_2 (g : D → Option D) (h : D → D → Option D) (d e : D) : oneTwo g h [d, e] = h d e := rfl
theorem mul_ii {i j : Int} (h : CMul i j) : mulO (.int i) (.int j) = some (.int (i * j)) := if_pos h
theorem fdiv_ii {i j : Int} (h1 : 0 < j) (h2 : j < 1073741824) : fdivO (.int i) (.int j) = some (.int (i / j)) := if_pos ⟨h1, h2⟩
theorem mod_ii {i j : Int} (h1 : 0 < j) : modO (.int i) (.int j) = some (.int (i % j)) := if_pos h1
@[simp] theorem eq_ii (i j : Int) : eqO (.int i) (.int j) = some (.bl (decide (i = j))) := by
  show some (D.bl (PyData.eqv (.int i) (.int j))) = _
  rw [show PyData.eqv (.int i) (.int j) = (i == j) from by simp [PyData.eqv]]
  congr 2
@[simp] theorem ne_ii (i j : Int) : neO (.int i) (.int j) = some (.bl (!decide (i = j))) := by
  show some (D.bl (!PyData.eqv (.int i) (.int j))) = _
  rw [show PyData.eqv (.int i) (.int j) = (i == j) from by simp [PyData.eqv]]
  congr 2
end Mir
/-! Pl2: more on how mirrors run: equality of data, loops, draws. -/
namespace Mir
open PySem PySem.Spec PyProof.Rows L2

theorem eqv_same {d : D} {n : Nat} (h : d.ok n = true) : PyData.eqv d.py d.py = true := SeqAt.eqv_refl _ (ok_lay d n h).1
theorem eq_same {d : D} (h : d.ok 60 = true) : eqO d d = some (.bl true) := by
  unfold eqO; rw [h, eqv_same h]; rfl
theorem ne_same {d : D} (h : d.ok 60 = true) : neO d d = some (.bl false) := by
  unfold neO; rw [h, eqv_same h]; rfl
/-- what a statement that goes on leaves -/
def Goes (r : R Fl) (Q : MS → Prop) : Prop := ∃ S, r = .ok .nx S ∧ Q S
theorem goes_seq {a b : Stm} {S : MS} {P : R Fl → Prop} (h : Goes (a S) fun S1 => P (b S1)) : P (sSeq a b S) := by
  obtain ⟨S1, e, h⟩ := h
  rw [seq_nx e]; exact h
/-- a for by its turns -/
theorem goes_for {its : Exps} {g : Tgt} {b : Stm} {S S0 : MS} {ds : List D} {Q : MS → Prop} (hi : its S = .ok ds S0) (Inv : Nat → MS → Prop) (h0 : Inv 0 S0)
    (hk : ∀ i d S, ds[i]? = some d → Inv i S → ∃ S1, g d S = some S1 ∧ Goes (b S1) (Inv (i + 1))) (hq : ∀ S, Inv ds.length S → Q S) : Goes (sFor its g b S) Q := by
  obtain ⟨S2, e, h2⟩ := for_ix (g := g) (b := b) Inv ds h0 fun i d S hd h => by
    obtain ⟨S1, e1, S2, e2, h2⟩ := hk i d S hd h
    exact ⟨S1, S2, e1, e2, h2⟩
  refine ⟨S2, ?_, hq S2 h2⟩
  rw [sFor_eq, hi]; exact e
theorem add_ll {xs ys : List D} (h : xs.length + ys.length ≤ 16777216) : addO (.lst xs) (.lst ys) = some (.lst (xs ++ ys)) := by
  unfold addO; simp only; rw [if_pos (by rw [sizeLine_eq]; exact h)]
theorem add_tt {xs ys : List D} (h : xs.length + ys.length ≤ 16777216) : addO (.tup xs) (.tup ys) = some (.tup (xs ++ ys)) := by
  unfold addO; simp only; rw [if_pos (by rw [sizeLine_eq]; exact h)]
theorem add_ss {x y : Str} (h : x.length + y.length ≤ 16777216) : addO (.str x) (.str y) = some (.str (x ++ y)) := by
  unfold addO; simp only; rw [if_pos (by rw [sizeLine_eq]; exact h)]
end Mir
namespace Prog
open PySem PySem.Spec PyProof.Rows L2 Mir
def top (i : Nat) : Stmt := PySem.Challenge.pw_coinspaidout_k09_errors.main.body.getD i (.Pass ⟨0, 0, 0, 0⟩)
def isa_BadEvent (c : Str) : Bool := decide (c ∈ (["BadEvent"] : List Str))
def isa_BadItem (c : Str) : Bool := decide (c ∈ (["BadItem"] : List Str))
def isa_BadName (c : Str) : Bool := decide (c ∈ (["BadName"] : List Str))
def isa_BadNote (c : Str) : Bool := decide (c ∈ (["BadNote"] : List Str))
def isa_BadNumber (c : Str) : Bool := decide (c ∈ (["BadNumber"] : List Str))
def isa_CoinsError (c : Str) : Bool := decide (c ∈ (["CoinsError", "BadNumber", "BadName", "BadItem", "BadEvent", "BadNote", "TooMany", "Unknown", "Taken", "Refused", "NothingToUndo"] : List Str))
def isa_NothingToUndo (c : Str) : Bool := decide (c ∈ (["NothingToUndo"] : List Str))
def isa_Refused (c : Str) : Bool := decide (c ∈ (["Refused"] : List Str))
def isa_Taken (c : Str) : Bool := decide (c ∈ (["Taken"] : List Str))
def isa_TooMany (c : Str) : Bool := decide (c ∈ (["TooMany"] : List Str))
def isa_Unknown (c : Str) : Bool := decide (c ∈ (["Unknown"] : List Str))
def isb_LookupError (_ : Str) : Bool := false
def isb_RuntimeError (_ : Str) : Bool := false
def isb_ValueError (_ : Str) : Bool := true
/-! ### the mirrors -/
def b_law_taken : Stm :=
  (sSeq (sIf (tOf (eBin gtO (eIxR (rfN 0) (eC (.int 3))) (eC (.int 0)))) (sSeq (sSet 2 (eBin modO (eB (one toIntO) (aCons (eIxR (rfN 0) (eC (.int 3))) aNil)) (eVar 1)))
  (sSeq (sIx (rfN 0) (eC (.int 3)) (eBin fdivO (eIxR (rfN 0) (eC (.int 3))) (eVar 1)))
  (sRet (eVar 2)))) sNil)
  (sSeq (sIx (rfN 0) (eC (.int 1)) (eBin addO (eIxR (rfN 0) (eC (.int 1))) (eC (.int 1))))
  (sSeq (sIf (tOf (eBin gtO (eIxR (rfN 0) (eC (.int 1))) (eB (one lenO) (aCons (eIxR (rfN 0) (eC (.int 0))) aNil)))) (sSeq (sIx (rfN 0) (eC (.int 2)) (eBin modO (eB (one toIntO) (aCons (eBin addO (eBin mulO (eIxR (rfN 0) (eC (.int 2))) (eC (.int 48271))) (eC (.int 11))) aNil)) (eC (.int 2147483647))))
  (sRet (eBin modO (eB (one toIntO) (aCons (eBin fdivO (eIxR (rfN 0) (eC (.int 2))) (eC (.int 7))) aNil)) (eVar 1)))) sNil)
  (sSeq (sSet 3 (eBin ixO (eIxR (rfN 0) (eC (.int 0))) (eBin subO (eIxR (rfN 0) (eC (.int 1))) (eC (.int 1)))))
  (sSeq (sIx (rfN 0) (eC (.int 2)) (eBin modO (eB (one toIntO) (aCons (eBin addO (eBin addO (eBin mulO (eIxR (rfN 0) (eC (.int 2))) (eC (.int 48271))) (eVar 3)) (eC (.int 11))) aNil)) (eC (.int 2147483647))))
  (sSeq (sIf (tOf (eBin geO (eVar 3) (eBin powO (eC (.int 10)) (eC (.int 18))))) (sIx (rfN 0) (eC (.int 3)) (eBin fdivO (eVar 3) (eVar 1))) sNil)
  (sRet (eBin modO (eB (one toIntO) (aCons (eVar 3) aNil)) (eVar 1)))))))))
def m_law_taken : Fn := fnM 4 b_law_taken
def b_law_pick : Stm :=
  (sRet (eBin ixO (eVar 1) (eCall 2 m_law_taken (aCons (eVar 0) (aCons (eB (one lenO) (aCons (eVar 1) aNil)) aNil)))))
def m_law_pick : Fn := fnM 2 b_law_pick
def b_law_alike (rec : Fn) : Stm :=
  (sSeq (sIf (tOf (eUn (isiG2 "tuple" "list") (eVar 1))) (sSeq (sIf (tOrM (tNotM (tOf (eUn (isiG2 "tuple" "list") (eVar 0)))) (tOf (eBin neO (eUn (isiG "list") (eVar 0)) (eUn (isiG "list") (eVar 1))))) (sRet (eC (.bl false))) sNil)
  (sSeq (sIf (tOf (eBin neO (eB (one lenO) (aCons (eVar 0) aNil)) (eB (one lenO) (aCons (eVar 1) aNil)))) (sRet (eC (.bl false))) sNil)
  (sRet (eBin eqO (eFr (fLc [2] (iRange1 (aCons (eB (one lenO) (aCons (eVar 1) aNil)) aNil)) (gNm 2) (tNotM (tOf (eCall 2 rec (aCons (eBin ixO (eVar 0) (eVar 2)) (aCons (eBin ixO (eVar 1) (eVar 2)) aNil))))) (eVar 2))) (eLst aNil))))) sNil)
  (sSeq (sIf (tOrM (tOf (eBin isNO (eVar 1) (eC .non))) (tOf (eUn (isiG "str") (eVar 1)))) (sRet (eAnd (eBin eqO (eVar 0) (eVar 1)) (eBin eqO (eUn (isiG "str") (eVar 0)) (eUn (isiG "str") (eVar 1))))) sNil)
  (sRet (eAnd (eUn (isiG "int") (eVar 0)) (eAnd (eBin eqO (eUn (isiG "bool") (eVar 0)) (eUn (isiG "bool") (eVar 1))) (eBin eqO (eVar 0) (eVar 1)))))))
def m_law_alike : Nat → Fn
  | 0 => fun _ _ => .st
  | n + 1 => fnM 3 (b_law_alike (m_law_alike n))
def b_law_raised : Stm :=
  (sTryAs isa_CoinsError 3 (sSeq (sIf (tOf (eBin eqO (eVar 0) (eC (.int 0)))) (sRaise (mkF "BadNumber" ["value"] (aCons (eVar 1) aNil))) sNil)
  (sSeq (sIf (tOf (eBin eqO (eVar 0) (eC (.int 1)))) (sRaise (mkF "BadName" ["value"] (aCons (eVar 1) aNil))) sNil)
  (sSeq (sIf (tOf (eBin eqO (eVar 0) (eC (.int 2)))) (sRaise (mkF "BadItem" ["index"] (aCons (eVar 1) aNil))) sNil)
  (sSeq (sIf (tOf (eBin eqO (eVar 0) (eC (.int 3)))) (sRaise (mkF "BadEvent" ["value"] (aCons (eVar 1) aNil))) sNil)
  (sSeq (sIf (tOf (eBin eqO (eVar 0) (eC (.int 4)))) (sRaise (mkF "BadNote" ["line"] (aCons (eVar 1) aNil))) sNil)
  (sSeq (sIf (tOf (eBin eqO (eVar 0) (eC (.int 5)))) (sRaise (mkF "TooMany" ["limit"] (aCons (eVar 1) aNil))) sNil)
  (sSeq (sIf (tOf (eBin eqO (eVar 0) (eC (.int 6)))) (sRaise (mkF "Unknown" ["value"] (aCons (eVar 1) aNil))) sNil)
  (sSeq (sIf (tOf (eBin eqO (eVar 0) (eC (.int 7)))) (sRaise (mkF "Taken" ["value"] (aCons (eVar 1) aNil))) sNil)
  (sSeq (sIf (tOf (eBin eqO (eVar 0) (eC (.int 8)))) (sRaise (mkF "Refused" ["reason", "names"] (aCons (eVar 1) (aCons (eVar 2) aNil)))) sNil)
  (sRaise (mk0 "NothingToUndo"))))))))))) (sSeq (sSet 4 (eLst (aCons (eIs 3 isa_BadNumber) (aCons (eIs 3 isa_BadName) (aCons (eIs 3 isa_BadItem) (aCons (eIs 3 isa_BadEvent) (aCons (eIs 3 isa_BadNote) aNil)))))))
  (sSeq (sSet 4 (eBin addO (eVar 4) (eLst (aCons (eIs 3 isa_TooMany) (aCons (eIs 3 isa_Unknown) (aCons (eIs 3 isa_Taken) (aCons (eIs 3 isa_Refused) (aCons (eIs 3 isa_NothingToUndo) aNil))))))))
  (sSeq (sIf (tOrM (tNotM (tOf (eIs 3 isb_ValueError))) (tOrM (tOf (eIs 3 isb_LookupError)) (tOf (eIs 3 isb_RuntimeError)))) (sRet (eC .non)) sNil)
  (sSeq (sSet 5 (eC .non))
  (sSeq (sIf (tOf (eBin inO (eVar 0) (eLst (aCons (eC (.int 0)) (aCons (eC (.int 1)) (aCons (eC (.int 3)) (aCons (eC (.int 6)) (aCons (eC (.int 7)) aNil)))))))) (sSet 5 (eXfs 3 ["BadNumber", "BadName", "BadEvent", "Unknown", "Taken"] "value")) sNil)
  (sSeq (sIf (tOf (eBin eqO (eVar 0) (eC (.int 2)))) (sSet 5 (eXfs 3 ["BadItem"] "index")) sNil)
  (sSeq (sIf (tOf (eBin eqO (eVar 0) (eC (.int 4)))) (sSet 5 (eXfs 3 ["BadNote"] "line")) sNil)
  (sSeq (sIf (tOf (eBin eqO (eVar 0) (eC (.int 5)))) (sSet 5 (eXfs 3 ["TooMany"] "limit")) sNil)
  (sSeq (sIf (tOf (eBin eqO (eVar 0) (eC (.int 8)))) (sSet 5 (eTup (aCons (eXfs 3 ["Refused"] "reason") (aCons (eXfs 3 ["Refused"] "names") aNil)))) sNil)
  (sRet (eTup (aCons (eVar 4) (aCons (eVar 5) aNil))))))))))))))
def m_law_raised : Fn := fnM 6 b_law_raised
def b_law : Stm :=
  (sSeq (sSet 1 (eCel (fLst (aCons (eVar 0) (aCons (eC (.int 0)) (aCons (eC (.int 53)) (aCons (eC (.int 0)) aNil)))))))
  (sSeq (sFor (iRange1 (aCons (eC (.int 10)) aNil)) (gNm 2) (sSeq (sSet 3 (eCall 2 m_law_pick (aCons (eVar 1) (aCons (eLst (aCons (eC .non) (aCons (eC (.int 7)) (aCons (eC (.str "x")) (aCons (eTup (aCons (eC (.int 1)) (aCons (eC (.int 2)) aNil))) (aCons (eC (.bl true)) (aCons (eCall 2 m_law_taken (aCons (eVar 1) (aCons (eBin powO (eC (.int 10)) (eC (.int 9))) aNil))) aNil))))))) aNil))))
  (sSeq (sSet 4 (eCall 2 m_law_pick (aCons (eVar 1) (aCons (eLst (aCons (eTup aNil) (aCons (eTup (aCons (eC (.str "a")) aNil)) aNil))) aNil))))
  (sSeq (sSet 5 (eCall 3 m_law_raised (aCons (eVar 2) (aCons (eVar 3) (aCons (eVar 4) aNil)))))
  (sSeq (sIf (tOrM (tOf (eBin isNO (eVar 5) (eC .non))) (tOf (eBin neO (eBin ixO (eVar 5) (eC (.int 0))) (eFr (fLc [8] (iRange1 (aCons (eC (.int 10)) aNil)) (gNm 8) tYesM (eBin eqO (eVar 8) (eVar 2))))))) (sRet (eC (.bl false))) sNil)
  (sSeq (sSet 6 (eVar 3))
  (sSeq (sIf (tOf (eBin eqO (eVar 2) (eC (.int 8)))) (sSet 6 (eTup (aCons (eVar 3) (aCons (eVar 4) aNil)))) sNil)
  (sIf (tAndM (tOf (eBin ltO (eVar 2) (eC (.int 9)))) (tOrM (tOf (eBin neO (eBin ixO (eVar 5) (eC (.int 1))) (eVar 6))) (tOf (eBin neO (eUn (isiG "bool") (eBin ixO (eVar 5) (eC (.int 1)))) (eUn (isiG "bool") (eVar 6)))))) (sRet (eC (.bl false))) sNil))))))))
  (sSeq (sSet 7 (eLst (aCons (eKwf ["value"] "value" (aCons (eC (.int 1)) aNil)) (aCons (eKwf ["value"] "value" (aCons (eC (.str "a")) aNil)) (aCons (eKwf ["index"] "index" (aCons (eC (.int 4)) aNil)) (aCons (eKwf ["value"] "value" (aCons (eC (.int 5)) aNil)) (aCons (eKwf ["line"] "line" (aCons (eC (.int 6)) aNil)) aNil)))))))
  (sSeq (sSet 7 (eBin addO (eVar 7) (eLst (aCons (eKwf ["limit"] "limit" (aCons (eC (.int 7)) aNil)) (aCons (eKwf ["value"] "value" (aCons (eC (.int 8)) aNil)) (aCons (eKwf ["value"] "value" (aCons (eC (.int 9)) aNil)) (aCons (eKwf ["reason", "names"] "names" (aCons (eC (.str "r")) (aCons (eC (.int 11)) aNil))) (aCons (eKwf ["names", "reason"] "reason" (aCons (eC (.int 1)) (aCons (eC (.str "s")) aNil))) aNil))))))))
  (sRet (eCall 2 (m_law_alike 30) (aCons (eVar 7) (aCons (eLst (aCons (eC (.int 1)) (aCons (eC (.str "a")) (aCons (eC (.int 4)) (aCons (eC (.int 5)) (aCons (eC (.int 6)) (aCons (eC (.int 7)) (aCons (eC (.int 8)) (aCons (eC (.int 9)) (aCons (eC (.int 11)) (aCons (eC (.str "s")) aNil))))))))))) aNil))))))))
def m_law : Fn := fnM 9 b_law
end Prog
namespace Prog
open PySem PySem.Spec PyProof.Rows L2 Mir
@[simp] theorem ix0 (a b : D) : ixO (.tup [a, b]) (.int 0) = some a := rfl
@[simp] theorem ix1 (a b : D) : ixO (.tup [a, b]) (.int 1) = some b := rfl
@[simp] theorem abs_i (i : Int) : absO (.int i) = some (.int (if i < 0 then -i else i)) := rfl
@[simp] theorem isi_int (i : Int) : isiG "int" (.int i) = some (.bl true) := rfl
@[simp] theorem isi_bool (i : Int) : isiG "bool" (.int i) = some (.bl false) := rfl
@[simp] theorem isi_list (i : Int) : isiG "list" (.int i) = some (.bl false) := rfl
@[simp] theorem len_t (ds : List D) : lenO (.tup ds) = some (.int ds.length) := rfl
@[simp] theorem len_l (ds : List D) : lenO (.lst ds) = some (.int ds.length) := rfl
/-! ### what the script gives -/
@[simp] theorem eIxR_eq (a : Rf) (b : Exp) (S : MS) : eIxR a b S = (a S).bind fun m S1 => (b S1).bind fun k S2 => liftO S2 ((getM S2 m).bind fun s => ixS s k) := rfl
@[simp] theorem rfN_eq (i : Nat) (l : List Sl) (st : List Cl) : rfN i ⟨l, st⟩ = match l[i]? with
  | some (.ol _) => .ok (.own i) ⟨l, st⟩
  | some (.od _ _) => .ok (.own i) ⟨l, st⟩
  | some (.oi _ _) => .ok (.own i) ⟨l, st⟩
  | some (.va (.cel n)) => .ok (.cel n) ⟨l, st⟩
  | _ => .st := rfl
@[simp] theorem getM_cel (l : List Sl) (c : Cl) (st : List Cl) : getM ⟨l, c :: st⟩ (.cel 0) = c.sl := rfl
@[simp] theorem sl_l (ds : List D) : (Cl.l ds).sl = some (.ol ds) := rfl
@[simp] theorem ixS_l (ds : List D) (i : Int) : ixS (.ol ds) (.int i) = atI ds i := rfl
@[simp] theorem at0 {α : Type} (a b c d : α) : atI [a, b, c, d] 0 = some a := rfl
@[simp] theorem at1 {α : Type} (a b c d : α) : atI [a, b, c, d] 1 = some b := rfl
@[simp] theorem at2 {α : Type} (a b c d : α) : atI [a, b, c, d] 2 = some c := rfl
@[simp] theorem at3 {α : Type} (a b c d : α) : atI [a, b, c, d] 3 = some d := rfl
@[simp] theorem sIx_eq (a : Rf) (b e : Exp) (S : MS) : sIx a b e S = (e S).bind fun d S1 => gIx a b d S1 := rfl
@[simp] theorem gIx_eq (a : Rf) (b : Exp) (d : D) (S : MS) : gIx a b d S = (a S).bind fun m S1 => (b S1).bind fun k S2 => match (getM S2 m).bind fun s => setS s k d with
  | some s' => liftG (setM S2 m s')
  | none => .st := rfl
@[simp] theorem set1 (a b c d e : D) : setS (.ol [a, b, c, d]) (.int 1) e = some (.ol [a, e, c, d]) := rfl
@[simp] theorem set2 (a b c d e : D) : setS (.ol [a, b, c, d]) (.int 2) e = some (.ol [a, b, e, d]) := rfl
@[simp] theorem set3 (a b c d e : D) : setS (.ol [a, b, c, d]) (.int 3) e = some (.ol [a, b, c, e]) := rfl
@[simp] theorem setM_cel (l : List Sl) (c : Cl) (st : List Cl) (ds : List D) : setM ⟨l, c :: st⟩ (.cel 0) (.ol ds) = some ⟨l, .l ds :: st⟩ := rfl
@[simp] theorem len_s (ns : List Int) : lenO (.scr ns) = some (.int ns.length) := rfl
theorem pow18 : powO (.int 10) (.int 18) = some (.int 1000000000000000000) := by
  show (if CPow 10 18 then some (D.int (10 ^ (18 : Int).toNat)) else none) = _
  rw [if_pos (by decide)]; rfl
abbrev row (ns : List Int) (p s r : Int) : Cl := .l [.scr ns, .int p, .int s, .int r]
theorem taken_eq (ns : List Int) (p s r many : Int) (hp : 0 ≤ p) (h1 : 0 < many) (h2 : many < 1073741824) : ∃ k p' s' r', m_law_taken [.cel 0, .int many] [row ns p s r] = .ok (.int k) ⟨[], [row ns p' s' r']⟩ ∧ 0 ≤ k ∧ k < many ∧ 0 ≤ p' := by
  unfold m_law_taken b_law_taken
  rw [fnM_eq]
  have m1 : CMul s 48271 := .inr (by omega)
  have m2 : ∀ i : Int, 0 ≤ i % many ∧ i % many < many := fun i => ⟨Int.emod_nonneg _ (by omega), Int.emod_lt_of_pos _ h1⟩
  by_cases c1 : 0 < r
  · exact ⟨r % many, p, s, r / many, by simp [c1, mod_ii h1, fdiv_ii h1 h2], (m2 _).1, (m2 _).2, hp⟩
  by_cases c2 : (ns.length : Int) < p + 1
  · refine ⟨((s * 48271 + 11) % 2147483647) / 7 % many, p + 1, (s * 48271 + 11) % 2147483647, r, ?_, (m2 _).1, (m2 _).2, by omega⟩
    simp [c1, c2, mul_ii m1, mod_ii (i := s * 48271 + 11) (j := 2147483647) (by omega), fdiv_ii (i := (s * 48271 + 11) % 2147483647) (j := 7) (by omega) (by omega), mod_ii h1]
  · have hl : p.toNat < ns.length := by omega
    have ec : ixO (.scr ns) (.int (p + 1 - 1)) = some (.int ns[p.toNat]) := by
      show (atI ns (p + 1 - 1)).map D.int = _
      have : p + 1 - 1 = ((p.toNat : Nat) : Int) := by omega
      rw [this, Mir.atI_nat, List.getElem?_eq_getElem hl]; rfl
    by_cases c3 : 1000000000000000000 ≤ ns[p.toNat]
    · refine ⟨ns[p.toNat] % many, p + 1, (s * 48271 + ns[p.toNat] + 11) % 2147483647, ns[p.toNat] / many, ?_, (m2 _).1, (m2 _).2, by omega⟩
      simp only [Int.add_sub_cancel] at ec
      simp [c1, c2, c3, ec, mul_ii m1, pow18, mod_ii (i := s * 48271 + ns[p.toNat] + 11) (j := 2147483647) (by omega), mod_ii h1, fdiv_ii h1 h2]
    · refine ⟨ns[p.toNat] % many, p + 1, (s * 48271 + ns[p.toNat] + 11) % 2147483647, r, ?_, (m2 _).1, (m2 _).2, by omega⟩
      simp only [Int.add_sub_cancel] at ec
      simp [c1, c2, c3, ec, mul_ii m1, pow18, mod_ii (i := s * 48271 + ns[p.toNat] + 11) (j := 2147483647) (by omega), mod_ii h1]
/-! ### alike -/
@[simp] theorem eq_bb (a b : Bool) : eqO (.bl a) (.bl b) = some (.bl (decide (a = b))) := by cases a <;> cases b <;> rfl
@[simp] theorem ne_bb (a b : Bool) : neO (.bl a) (.bl b) = some (.bl (!decide (a = b))) := by cases a <;> cases b <;> rfl
theorem alike_int (n : Nat) (i : Int) (st : List Cl) : m_law_alike (n + 1) [.int i, .int i] st = .ok (.bl true) ⟨[], st⟩ := by
  show fnM 3 (b_law_alike (m_law_alike n)) _ _ = _
  rw [fnM_eq]
  unfold b_law_alike
  simp [show ∀ i, isiG2 "tuple" "list" (.int i) = some (.bl false) from fun _ => rfl, show ∀ i, isNO (.int i) .non = some (.bl false) from fun _ => rfl, show ∀ i, isiG "str" (.int i) = some (.bl false) from fun _ => rfl]
theorem eq_nil : eqO (.lst []) (.lst []) = some (.bl true) := by simp [eqO, D.ok, D.okL, D.py, D.pyL, PyData.eqv, PyData.eqvAll]
theorem alike_tup (n : Nat) (xs : List D) (st : List Cl) (h : ∀ x ∈ xs, m_law_alike n [x, x] st = .ok (.bl true) ⟨[], st⟩) (hz : xs.length ≤ 1000) : m_law_alike (n + 1) [.tup xs, .tup xs] st = .ok (.bl true) ⟨[], st⟩ := by
  show fnM 3 (b_law_alike (m_law_alike n)) _ _ = _
  rw [fnM_eq]
  unfold b_law_alike
  have e := fLc_pure (k := 2) (its := iRange1 (aCons (eB (one lenO) (aCons (eVar 1) aNil)) aNil)) (t := tNotM (tOf (eCall 2 (m_law_alike n) (aCons (eBin ixO (eVar 0) (eVar 2)) (aCons (eBin ixO (eVar 1) (eVar 2)) aNil))))) (e := eVar 2)
    (l := [.va (.tup xs), .va (.tup xs), .un]) (st := st) (S := ⟨[.va (.tup xs), .va (.tup xs), .un], st⟩) (ds := rngD 0 xs.length) (st1 := st) (fun _ => false) id (range1 (j := xs.length) (by simp) (by omega) (by omega)) (by simp) rfl (fun d hd => by
      obtain ⟨i, hi⟩ := List.getElem?_of_mem hd
      obtain ⟨h1, rfl⟩ := rngD_get hi
      have ex : ixO (.tup xs) (.int (i : Nat)) = some xs[i] := by
        show atI xs (i : Nat) = _
        rw [Mir.atI_nat, List.getElem?_eq_getElem h1]
      simp [ex, callM, h xs[i] (List.getElem_mem h1)]) (fun d hd hp => by cases hp) (by rw [rngD_length, sizeLine_eq]; omega)
  rw [show (rngD 0 xs.length).filter (fun _ => false) = [] from by simp] at e
  have q1 : ∀ ds, isiG2 "tuple" "list" (.tup ds) = some (.bl true) := fun _ => rfl
  have q3 : ∀ ds, isiG "list" (.tup ds) = some (.bl false) := fun _ => rfl
  show fin (sSeq _ _ ⟨[.va (.tup xs), .va (.tup xs), .un], st⟩) = _
  refine (congrArg fin (seq_rt (d := .bl true) (S1 := ⟨[.va (.tup xs), .va (.tup xs), .un], st⟩) ?_)).trans rfl
  rw [sIf_eq, show tOf (eUn (isiG2 "tuple" "list") (eVar 1)) ⟨[.va (.tup xs), .va (.tup xs), .un], st⟩ = .ok true ⟨[.va (.tup xs), .va (.tup xs), .un], st⟩ from by simp [q1], bind_ok, if_pos rfl]
  rw [seq_nx (S1 := ⟨[.va (.tup xs), .va (.tup xs), .un], st⟩) (by simp [q1, q3]), seq_nx (S1 := ⟨[.va (.tup xs), .va (.tup xs), .un], st⟩) (by simp)]
  simp [e, eq_nil]
end Prog
namespace Prog
open PySem PySem.Spec PyProof.Rows L2 Mir
def bls (n : Nat) : List D := (List.range 10).map fun k => .bl (decide (k = n))
/-- what law_raised tells -/
def told (n : Nat) (v w : D) : D := .tup [.lst (bls n), if n = 8 then .tup [v, w] else if n = 9 then .non else v]
theorem raised_eq (n : Nat) (hn : n < 10) (v w : D) (st : List Cl) : m_law_raised [.int (n : Nat), v, w] st = .ok (told n v w) ⟨[], st⟩ := by
  match n, hn with
  | 0, _ => rfl
  | 1, _ => rfl
  | 2, _ => rfl
  | 3, _ => rfl
  | 4, _ => rfl
  | 5, _ => rfl
  | 6, _ => rfl
  | 7, _ => rfl
  | 8, _ => rfl
  | 9, _ => rfl
theorem pick_eq (ns : List Int) (p s r : Int) (hp : 0 ≤ p) (ds : List D) (h1 : 0 < ds.length) (h2 : ds.length < 1000) : ∃ d p' s' r', d ∈ ds ∧ 0 ≤ p' ∧ m_law_pick [.cel 0, .lst ds] [row ns p s r] = .ok d ⟨[], [row ns p' s' r']⟩ := by
  obtain ⟨k, p', s', r', e, k1, k2, k3⟩ := taken_eq ns p s r ds.length hp (by omega) (by omega)
  have hk : k.toNat < ds.length := by omega
  refine ⟨ds[k.toNat], p', s', r', List.getElem_mem hk, k3, ?_⟩
  have ex : ixO (.lst ds) (.int k) = some ds[k.toNat] := by
    have h := Mir.atI_nat ds k.toNat
    rw [show ((k.toNat : Nat) : Int) = k from by omega, List.getElem?_eq_getElem hk] at h
    exact h
  unfold m_law_pick b_law_pick
  rw [fnM_eq]
  simp [callM, e, ex]
end Prog
namespace Prog
open PySem PySem.Spec PyProof.Rows L2 Mir
/-- a value that the law hands on -/
def good (v : D) : Prop := v.ok 59 = true ∧ v.ok 60 = true ∧ ∃ b, isiG "bool" v = some (.bl b)
theorem good_vals (k : Int) : ∀ v ∈ [D.non, .int 7, .str "x", .tup [.int 1, .int 2], .bl true, .int k], good v := by
  intro v hv
  simp only [List.mem_cons, List.not_mem_nil, or_false] at hv
  rcases hv with rfl | rfl | rfl | rfl | rfl | rfl
  · exact ⟨rfl, rfl, _, rfl⟩
  · exact ⟨rfl, rfl, _, rfl⟩
  · exact ⟨by decide +kernel, by decide +kernel, _, rfl⟩
  · exact ⟨by decide +kernel, by decide +kernel, _, rfl⟩
  · exact ⟨rfl, rfl, _, rfl⟩
  · exact ⟨rfl, rfl, _, rfl⟩
theorem ok_pair {v w : D} (h1 : v.ok 59 = true) (h2 : w.ok 59 = true) : (D.tup [v, w]).ok 60 = true := by
  simp [D.ok, D.okL, h1, h2]
theorem isn (a : D) (l : List D) : isNO (.tup (a :: l)) .non = some (.bl false) := rfl
theorem isb_tup (l : List D) : isiG "bool" (.tup l) = some (.bl false) := rfl
theorem bls_ok : ∀ n, n < 10 → (D.lst (bls n)).ok 60 = true := by decide +kernel
theorem comp_eq {l : List Sl} {st : List Cl} {n : Nat} (h8 : 8 < l.length) (hd : ((l[8]?).getD Sl.un).dead = true) (h2 : l[2]? = some (.va (.int (n : Nat)))) : fLc [8] (iRange1 (aCons (eC (.int 10)) aNil)) (gNm 8) tYesM (eBin eqO (eVar 8) (eVar 2)) ⟨l, st⟩ = .ok (.ol (bls n)) ⟨l, st⟩ := by
  have e := fLc_pure (k := 8) (its := iRange1 (aCons (eC (.int 10)) aNil)) (t := tYesM) (e := eBin eqO (eVar 8) (eVar 2)) (l := l) (st := st) (st1 := st) (S := ⟨l, st⟩) (ds := rngD 0 10) (fun _ => true) (fun d => match d with | .int i => .bl (decide (i = (n : Nat))) | _ => .non) (range1 (j := 10) (by simp) (by omega) (by omega)) h8 hd (fun d hd => rfl) (fun d hd _ => by
    obtain ⟨i, hi⟩ := List.getElem?_of_mem hd
    obtain ⟨h1, rfl⟩ := rngD_get hi
    have e2 : (l.set 8 (Sl.va (.int (0 + (i : Int)))))[2]? = some (.va (.int (n : Nat))) := by rw [List.getElem?_set_ne (by omega)]; exact h2
    simp [e2, h2, h8]) (by rw [rngD_length, sizeLine_eq]; omega)
  rw [e]
  congr 2
  unfold bls rngD
  rw [List.filter_eq_self.mpr (by simp), List.map_map]
  apply List.map_congr_left
  intro i hi
  simp only [Function.comp]
  congr 1
  rw [decide_eq_decide]; omega
theorem law_loop (ns : List Int) (n : Nat) (hn : n < 10) (o3 o4 o5 o6 : Sl) (p s r : Int) (hp : 0 ≤ p) :
    ∃ d3 d4 d5 d6 p' s' r', 0 ≤ p' ∧ (sSeq (sSet 3 (eCall 2 m_law_pick (aCons (eVar 1) (aCons (eLst (aCons (eC .non) (aCons (eC (.int 7)) (aCons (eC (.str "x")) (aCons (eTup (aCons (eC (.int 1)) (aCons (eC (.int 2)) aNil))) (aCons (eC (.bl true)) (aCons (eCall 2 m_law_taken (aCons (eVar 1) (aCons (eBin powO (eC (.int 10)) (eC (.int 9))) aNil))) aNil))))))) aNil))))
  (sSeq (sSet 4 (eCall 2 m_law_pick (aCons (eVar 1) (aCons (eLst (aCons (eTup aNil) (aCons (eTup (aCons (eC (.str "a")) aNil)) aNil))) aNil))))
  (sSeq (sSet 5 (eCall 3 m_law_raised (aCons (eVar 2) (aCons (eVar 3) (aCons (eVar 4) aNil)))))
  (sSeq (sIf (tOrM (tOf (eBin isNO (eVar 5) (eC .non))) (tOf (eBin neO (eBin ixO (eVar 5) (eC (.int 0))) (eFr (fLc [8] (iRange1 (aCons (eC (.int 10)) aNil)) (gNm 8) tYesM (eBin eqO (eVar 8) (eVar 2))))))) (sRet (eC (.bl false))) sNil)
  (sSeq (sSet 6 (eVar 3))
  (sSeq (sIf (tOf (eBin eqO (eVar 2) (eC (.int 8)))) (sSet 6 (eTup (aCons (eVar 3) (aCons (eVar 4) aNil)))) sNil)
  (sIf (tAndM (tOf (eBin ltO (eVar 2) (eC (.int 9)))) (tOrM (tOf (eBin neO (eBin ixO (eVar 5) (eC (.int 1))) (eVar 6))) (tOf (eBin neO (eUn (isiG "bool") (eBin ixO (eVar 5) (eC (.int 1)))) (eUn (isiG "bool") (eVar 6)))))) (sRet (eC (.bl false))) sNil)))))))
      ⟨[.va (.scr ns), .va (.cel 0), .va (.int (n : Nat)), o3, o4, o5, o6, .un, .un], [row ns p s r]⟩ = .ok .nx ⟨[.va (.scr ns), .va (.cel 0), .va (.int (n : Nat)), .va d3, .va d4, .va d5, .va d6, .un, .un], [row ns p' s' r']⟩ := by
  obtain ⟨k1, p1, s1, r1, e1, a1, b1, c1⟩ := taken_eq ns p s r 1000000000 hp (by omega) (by omega)
  obtain ⟨v, p2, s2, r2, mv, c2, e2⟩ := pick_eq ns p1 s1 r1 c1 [D.non, .int 7, .str "x", .tup [.int 1, .int 2], .bl true, .int k1] (by simp) (by simp)
  obtain ⟨w, p3, s3, r3, mw, c3, e3⟩ := pick_eq ns p2 s2 r2 c2 [D.tup [], .tup [.str "a"]] (by simp) (by simp)
  obtain ⟨g1, g2, b, g3⟩ := good_vals k1 v mv
  have hw : w.ok 59 = true := by
    simp only [List.mem_cons, List.not_mem_nil, or_false] at mw
    rcases mw with rfl | rfl <;> decide +kernel
  have e4 := raised_eq n hn v w [row ns p3 s3 r3]
  have hx : ¬ ∃ z : Nat, False := fun ⟨_, h⟩ => h
  have pw : powO (.int 10) (.int 9) = some (.int 1000000000) := by
    show (if CPow 10 9 then some (D.int (10 ^ (9 : Int).toNat)) else none) = _
    rw [if_pos (by decide)]; rfl
  refine ⟨v, w, told n v w, if n = 8 then .tup [v, w] else v, p3, s3, r3, c3, ?_⟩
  rw [seq_nx (S1 := ⟨[.va (.scr ns), .va (.cel 0), .va (.int (n : Nat)), .va v, o4, o5, o6, .un, .un], [row ns p2 s2 r2]⟩) (by simp [callM, e1, e2, pw])]
  rw [seq_nx (S1 := ⟨[.va (.scr ns), .va (.cel 0), .va (.int (n : Nat)), .va v, .va w, o5, o6, .un, .un], [row ns p3 s3 r3]⟩) (by simp [callM, e3])]
  rw [seq_nx (S1 := ⟨[.va (.scr ns), .va (.cel 0), .va (.int (n : Nat)), .va v, .va w, .va (told n v w), o6, .un, .un], [row ns p3 s3 r3]⟩) (by simp [callM, e4])]
  have ec := comp_eq (n := n) (st := [row ns p3 s3 r3]) (l := [.va (.scr ns), .va (.cel 0), .va (.int (n : Nat)), .va v, .va w, .va (told n v w), o6, .un, .un]) (by simp) (by simp [Sl.dead]) rfl
  have q := ne_same (bls_ok n hn)
  rw [seq_nx (S1 := ⟨[.va (.scr ns), .va (.cel 0), .va (.int (n : Nat)), .va v, .va w, .va (told n v w), o6, .un, .un], [row ns p3 s3 r3]⟩) (by
    unfold told at ec ⊢
    simp [isn, ec, q])]
  rw [seq_nx (S1 := ⟨[.va (.scr ns), .va (.cel 0), .va (.int (n : Nat)), .va v, .va w, .va (told n v w), .va v, .un, .un], [row ns p3 s3 r3]⟩) (by simp)]
  by_cases h8 : n = 8
  · subst h8
    have q2 := ne_same (ok_pair g1 hw)
    rw [seq_nx (S1 := ⟨[.va (.scr ns), .va (.cel 0), .va (.int (8 : Nat)), .va v, .va w, .va (told 8 v w), .va (.tup [v, w]), .un, .un], [row ns p3 s3 r3]⟩) (by simp)]
    simp [told, q2, isb_tup]
  · have h8' : ¬ (n : Int) = 8 := by omega
    rw [seq_nx (S1 := ⟨[.va (.scr ns), .va (.cel 0), .va (.int (n : Nat)), .va v, .va w, .va (told n v w), .va v, .un, .un], [row ns p3 s3 r3]⟩) (by simp [h8'])]
    by_cases h9 : n = 9
    · subst h9
      simp
    · have h9' : (n : Int) < 9 := by omega
      have q2 := ne_same g2
      simp [told, h8, h9, h9', q2, g3]
def dueM : D := .lst [.int 1, .str "a", .int 4, .int 5, .int 6, .int 7, .int 8, .int 9, .int 11, .str "s"]
theorem alike_str (n : Nat) (x : Str) (h : PyData.strOk x = true) (st : List Cl) : m_law_alike (n + 1) [.str x, .str x] st = .ok (.bl true) ⟨[], st⟩ := by
  show fnM 3 (b_law_alike (m_law_alike n)) _ _ = _
  rw [fnM_eq]
  unfold b_law_alike
  have e := eq_same (d := .str x) (by simpa [D.ok] using h)
  simp [e, show isiG2 "tuple" "list" (.str x) = some (.bl false) from rfl, show isNO (.str x) .non = some (.bl false) from rfl, show isiG "str" (.str x) = some (.bl true) from rfl]
theorem alike_lst (n : Nat) (xs : List D) (st : List Cl) (h : ∀ x ∈ xs, m_law_alike n [x, x] st = .ok (.bl true) ⟨[], st⟩) (hz : xs.length ≤ 1000) : m_law_alike (n + 1) [.lst xs, .lst xs] st = .ok (.bl true) ⟨[], st⟩ := by
  show fnM 3 (b_law_alike (m_law_alike n)) _ _ = _
  rw [fnM_eq]
  unfold b_law_alike
  have e := fLc_pure (k := 2) (its := iRange1 (aCons (eB (one lenO) (aCons (eVar 1) aNil)) aNil)) (t := tNotM (tOf (eCall 2 (m_law_alike n) (aCons (eBin ixO (eVar 0) (eVar 2)) (aCons (eBin ixO (eVar 1) (eVar 2)) aNil))))) (e := eVar 2)
    (l := [.va (.lst xs), .va (.lst xs), .un]) (st := st) (S := ⟨[.va (.lst xs), .va (.lst xs), .un], st⟩) (ds := rngD 0 xs.length) (st1 := st) (fun _ => false) id (range1 (j := xs.length) (by simp) (by omega) (by omega)) (by simp) rfl (fun d hd => by
      obtain ⟨i, hi⟩ := List.getElem?_of_mem hd
      obtain ⟨h1, rfl⟩ := rngD_get hi
      have ex : ixO (.lst xs) (.int (i : Nat)) = some xs[i] := by
        show atI xs (i : Nat) = _
        rw [Mir.atI_nat, List.getElem?_eq_getElem h1]
      simp [ex, callM, h xs[i] (List.getElem_mem h1)]) (fun d hd hp => by cases hp) (by rw [rngD_length, sizeLine_eq]; omega)
  rw [show (rngD 0 xs.length).filter (fun _ => false) = [] from by simp] at e
  have q1 : ∀ ds, isiG2 "tuple" "list" (.lst ds) = some (.bl true) := fun _ => rfl
  have q3 : ∀ ds, isiG "list" (.lst ds) = some (.bl true) := fun _ => rfl
  show fin (sSeq _ _ ⟨[.va (.lst xs), .va (.lst xs), .un], st⟩) = _
  refine (congrArg fin (seq_rt (d := .bl true) (S1 := ⟨[.va (.lst xs), .va (.lst xs), .un], st⟩) ?_)).trans rfl
  rw [sIf_eq, show tOf (eUn (isiG2 "tuple" "list") (eVar 1)) ⟨[.va (.lst xs), .va (.lst xs), .un], st⟩ = .ok true ⟨[.va (.lst xs), .va (.lst xs), .un], st⟩ from by simp [q1], bind_ok, if_pos rfl]
  rw [seq_nx (S1 := ⟨[.va (.lst xs), .va (.lst xs), .un], st⟩) (by simp [q1, q3]), seq_nx (S1 := ⟨[.va (.lst xs), .va (.lst xs), .un], st⟩) (by simp)]
  simp [e, eq_nil]
theorem made_eq (st : List Cl) : m_law_alike 30 [dueM, dueM] st = .ok (.bl true) ⟨[], st⟩ := alike_lst 29 _ st (by
  intro x hx
  simp only [List.mem_cons, List.not_mem_nil, or_false] at hx
  rcases hx with rfl | rfl | rfl | rfl | rfl | rfl | rfl | rfl | rfl | rfl
  all_goals first | exact alike_int 28 _ st | exact alike_str 28 _ (by decide +kernel) st) (by simp)
theorem law_true (ns : List Int) (_ : ns.length ≤ 63) : ∃ S, m_law [.scr ns] [] = .ok (.bl true) S := by
  unfold m_law b_law
  rw [fnM_eq]
  show ∃ S, fin (sSeq _ _ ⟨[.va (.scr ns), .un, .un, .un, .un, .un, .un, .un, .un], []⟩) = _
  rw [seq_nx (S1 := ⟨[.va (.scr ns), .va (.cel 0), .un, .un, .un, .un, .un, .un, .un], [row ns 0 53 0]⟩) (by simp)]
  refine goes_seq (P := fun r => ∃ S, fin r = .ok (.bl true) S) (goes_for (ds := rngD 0 10) (S0 := ⟨[.va (.scr ns), .va (.cel 0), .un, .un, .un, .un, .un, .un, .un], [row ns 0 53 0]⟩) ?_ (fun i S => ∃ o2 o3 o4 o5 o6 p s r, 0 ≤ p ∧ S = ⟨[.va (.scr ns), .va (.cel 0), o2, o3, o4, o5, o6, .un, .un], [row ns p s r]⟩) ⟨.un, .un, .un, .un, .un, 0, 53, 0, by omega, rfl⟩ ?_ ?_)
  · exact range1 (j := 10) (by simp) (by omega) (by omega)
  · rintro i d S hd ⟨o2, o3, o4, o5, o6, p, s, r, hp, rfl⟩
    obtain ⟨h1, rfl⟩ := rngD_get hd
    obtain ⟨d3, d4, d5, d6, p', s', r', hp', e⟩ := law_loop ns i h1 o3 o4 o5 o6 p s r hp
    rw [Int.zero_add]
    exact ⟨_, rfl, _, e, _, _, _, _, _, _, _, _, hp', rfl⟩
  · rintro S ⟨o2, o3, o4, o5, o6, p, s, r, hp, rfl⟩
    have e := made_eq [row ns p s r]
    unfold dueM at e
    have kw : ∀ ks f as S, eKwf ks f as S = (as S).bind fun ds S1 => if ds.length = ks.length then liftO S1 ((ks.zip ds).lookup f) else .st := fun _ _ _ _ => rfl
    have l1 : ∀ (f : Str) (d : D), List.lookup f [(f, d)] = some d := fun f d => look_eq
    have l2 : ∀ (a b : D), List.lookup ("names" : Str) [(("reason" : Str), a), (("names" : Str), b)] = some b := fun a b => (look_ne (by decide)).trans look_eq
    have l3 : ∀ (a b : D), List.lookup ("reason" : Str) [(("names" : Str), a), (("reason" : Str), b)] = some b := fun a b => (look_ne (by decide)).trans look_eq
    refine ⟨⟨[], [row ns p s r]⟩, ?_⟩
    simp [kw, add_ll, l1, l2, l3, callM, e]
end Prog
namespace Prog
open PySem PySem.Spec PyProof.Rows L2 Mir
/-! ### what the written part says -/
abbrev cl_ (C_CoinsError C_BadNumber C_BadName C_BadItem C_BadEvent C_BadNote C_TooMany C_Unknown C_Taken C_Refused C_NothingToUndo : Addr) : List (Str × Addr) := [("CoinsError", C_CoinsError), ("BadNumber", C_BadNumber), ("BadName", C_BadName), ("BadItem", C_BadItem), ("BadEvent", C_BadEvent), ("BadNote", C_BadNote), ("TooMany", C_TooMany), ("Unknown", C_Unknown), ("Taken", C_Taken), ("Refused", C_Refused), ("NothingToUndo", C_NothingToUndo)]
abbrev tc (K : PySem.W.Frag) (C_CoinsError C_BadNumber C_BadName C_BadItem C_BadEvent C_BadNote C_TooMany C_Unknown C_Taken C_Refused C_NothingToUndo : Addr) : Cfg := ⟨K, fun c => (cl_ C_CoinsError C_BadNumber C_BadName C_BadItem C_BadEvent C_BadNote C_TooMany C_Unknown C_Taken C_Refused C_NothingToUndo).lookup c⟩
structure Txt (P : Program) (K : PySem.W.Frag) (mg : Str → Option Value) (f_law_taken f_law_pick f_law_alike f_law_raised f_law : Addr) (fd_law_taken fd_law_pick fd_law_alike fd_law_raised fd_law : FuncData) (C_CoinsError C_BadNumber C_BadName C_BadItem C_BadEvent C_BadNote C_TooMany C_Unknown C_Taken C_Refused C_NothingToUndo fI_BadNumber cda_BadNumber cc_BadNumber fI_BadName cda_BadName cc_BadName fI_BadItem cda_BadItem cc_BadItem fI_BadEvent cda_BadEvent cc_BadEvent fI_BadNote cda_BadNote cc_BadNote fI_TooMany cda_TooMany cc_TooMany fI_Unknown cda_Unknown cc_Unknown fI_Taken cda_Taken cc_Taken fI_Refused cda_Refused cc_Refused : Addr) : Prop where
  n_LookupError : mg "LookupError" = none
  n_RuntimeError : mg "RuntimeError" = none
  n_ValueError : mg "ValueError" = none
  n_bool : mg "bool" = none
  n_int : mg "int" = none
  n_isinstance : mg "isinstance" = none
  n_len : mg "len" = none
  n_list : mg "list" = none
  n_range : mg "range" = none
  n_str : mg "str" = none
  n_tuple : mg "tuple" = none
  g_law_taken : mg "_law_taken" = some (.ref f_law_taken)
  k_law_taken : PySem.W.keepIn K (.ref f_law_taken) = true
  F_law_taken : Fun K "_law_taken" "_law_taken" (top 13) f_law_taken fd_law_taken
  b_law_taken : Binds K fd_law_taken ["row", "many"] []
  g_law_pick : mg "_law_pick" = some (.ref f_law_pick)
  k_law_pick : PySem.W.keepIn K (.ref f_law_pick) = true
  F_law_pick : Fun K "_law_pick" "_law_pick" (top 14) f_law_pick fd_law_pick
  b_law_pick : Binds K fd_law_pick ["row", "kinds"] []
  g_law_alike : mg "_law_alike" = some (.ref f_law_alike)
  k_law_alike : PySem.W.keepIn K (.ref f_law_alike) = true
  F_law_alike : Fun K "_law_alike" "_law_alike" (top 15) f_law_alike fd_law_alike
  b_law_alike : Binds K fd_law_alike ["found", "due"] []
  g_law_raised : mg "_law_raised" = some (.ref f_law_raised)
  k_law_raised : PySem.W.keepIn K (.ref f_law_raised) = true
  F_law_raised : Fun K "_law_raised" "_law_raised" (top 16) f_law_raised fd_law_raised
  b_law_raised : Binds K fd_law_raised ["number", "value", "named"] []
  g_law : mg "law" = some (.ref f_law)
  k_law : PySem.W.keepIn K (.ref f_law) = true
  F_law : Fun K "law" "law" (top 17) f_law fd_law
  b_law : Binds K fd_law ["script"] []
  gc_BadEvent : mg "BadEvent" = some (.ref C_BadEvent)
  x_BadEvent : XfC K C_BadEvent
  isa_BadEvent : Isa (tc K C_CoinsError C_BadNumber C_BadName C_BadItem C_BadEvent C_BadNote C_TooMany C_Unknown C_Taken C_Refused C_NothingToUndo) K (.ref C_BadEvent) isa_BadEvent
  gc_BadItem : mg "BadItem" = some (.ref C_BadItem)
  x_BadItem : XfC K C_BadItem
  isa_BadItem : Isa (tc K C_CoinsError C_BadNumber C_BadName C_BadItem C_BadEvent C_BadNote C_TooMany C_Unknown C_Taken C_Refused C_NothingToUndo) K (.ref C_BadItem) isa_BadItem
  gc_BadName : mg "BadName" = some (.ref C_BadName)
  x_BadName : XfC K C_BadName
  isa_BadName : Isa (tc K C_CoinsError C_BadNumber C_BadName C_BadItem C_BadEvent C_BadNote C_TooMany C_Unknown C_Taken C_Refused C_NothingToUndo) K (.ref C_BadName) isa_BadName
  gc_BadNote : mg "BadNote" = some (.ref C_BadNote)
  x_BadNote : XfC K C_BadNote
  isa_BadNote : Isa (tc K C_CoinsError C_BadNumber C_BadName C_BadItem C_BadEvent C_BadNote C_TooMany C_Unknown C_Taken C_Refused C_NothingToUndo) K (.ref C_BadNote) isa_BadNote
  gc_BadNumber : mg "BadNumber" = some (.ref C_BadNumber)
  x_BadNumber : XfC K C_BadNumber
  isa_BadNumber : Isa (tc K C_CoinsError C_BadNumber C_BadName C_BadItem C_BadEvent C_BadNote C_TooMany C_Unknown C_Taken C_Refused C_NothingToUndo) K (.ref C_BadNumber) isa_BadNumber
  gc_CoinsError : mg "CoinsError" = some (.ref C_CoinsError)
  x_CoinsError : XfC K C_CoinsError
  isa_CoinsError : Isa (tc K C_CoinsError C_BadNumber C_BadName C_BadItem C_BadEvent C_BadNote C_TooMany C_Unknown C_Taken C_Refused C_NothingToUndo) K (.ref C_CoinsError) isa_CoinsError
  gc_NothingToUndo : mg "NothingToUndo" = some (.ref C_NothingToUndo)
  x_NothingToUndo : XfC K C_NothingToUndo
  isa_NothingToUndo : Isa (tc K C_CoinsError C_BadNumber C_BadName C_BadItem C_BadEvent C_BadNote C_TooMany C_Unknown C_Taken C_Refused C_NothingToUndo) K (.ref C_NothingToUndo) isa_NothingToUndo
  gc_Refused : mg "Refused" = some (.ref C_Refused)
  x_Refused : XfC K C_Refused
  isa_Refused : Isa (tc K C_CoinsError C_BadNumber C_BadName C_BadItem C_BadEvent C_BadNote C_TooMany C_Unknown C_Taken C_Refused C_NothingToUndo) K (.ref C_Refused) isa_Refused
  gc_Taken : mg "Taken" = some (.ref C_Taken)
  x_Taken : XfC K C_Taken
  isa_Taken : Isa (tc K C_CoinsError C_BadNumber C_BadName C_BadItem C_BadEvent C_BadNote C_TooMany C_Unknown C_Taken C_Refused C_NothingToUndo) K (.ref C_Taken) isa_Taken
  gc_TooMany : mg "TooMany" = some (.ref C_TooMany)
  x_TooMany : XfC K C_TooMany
  isa_TooMany : Isa (tc K C_CoinsError C_BadNumber C_BadName C_BadItem C_BadEvent C_BadNote C_TooMany C_Unknown C_Taken C_Refused C_NothingToUndo) K (.ref C_TooMany) isa_TooMany
  gc_Unknown : mg "Unknown" = some (.ref C_Unknown)
  x_Unknown : XfC K C_Unknown
  isa_Unknown : Isa (tc K C_CoinsError C_BadNumber C_BadName C_BadItem C_BadEvent C_BadNote C_TooMany C_Unknown C_Taken C_Refused C_NothingToUndo) K (.ref C_Unknown) isa_Unknown
  z_NothingToUndo : PySem.W.excIn K C_NothingToUndo [.type "ValueError", .type "Exception", .type "BaseException", .type "object"] "ValueError.__new__" = true
  kc_NothingToUndo : PySem.W.keepIn K (.ref C_NothingToUndo) = true
  ex_NothingToUndo : PySem.W.subIn K (.ref C_NothingToUndo) (.type "BaseException") = some true
  ty_NothingToUndo : PySem.W.typeIn K (.ref C_NothingToUndo) = some (.type "type")
  ik_BadEvent : IsK (tc K C_CoinsError C_BadNumber C_BadName C_BadItem C_BadEvent C_BadNote C_TooMany C_Unknown C_Taken C_Refused C_NothingToUndo) K (.ref C_BadEvent) Prog.isa_BadEvent
  ik_BadItem : IsK (tc K C_CoinsError C_BadNumber C_BadName C_BadItem C_BadEvent C_BadNote C_TooMany C_Unknown C_Taken C_Refused C_NothingToUndo) K (.ref C_BadItem) Prog.isa_BadItem
  ik_BadName : IsK (tc K C_CoinsError C_BadNumber C_BadName C_BadItem C_BadEvent C_BadNote C_TooMany C_Unknown C_Taken C_Refused C_NothingToUndo) K (.ref C_BadName) Prog.isa_BadName
  ik_BadNote : IsK (tc K C_CoinsError C_BadNumber C_BadName C_BadItem C_BadEvent C_BadNote C_TooMany C_Unknown C_Taken C_Refused C_NothingToUndo) K (.ref C_BadNote) Prog.isa_BadNote
  ik_BadNumber : IsK (tc K C_CoinsError C_BadNumber C_BadName C_BadItem C_BadEvent C_BadNote C_TooMany C_Unknown C_Taken C_Refused C_NothingToUndo) K (.ref C_BadNumber) Prog.isa_BadNumber
  ik_LookupError : IsK (tc K C_CoinsError C_BadNumber C_BadName C_BadItem C_BadEvent C_BadNote C_TooMany C_Unknown C_Taken C_Refused C_NothingToUndo) K (.type "LookupError") Prog.isb_LookupError
  ik_NothingToUndo : IsK (tc K C_CoinsError C_BadNumber C_BadName C_BadItem C_BadEvent C_BadNote C_TooMany C_Unknown C_Taken C_Refused C_NothingToUndo) K (.ref C_NothingToUndo) Prog.isa_NothingToUndo
  ik_Refused : IsK (tc K C_CoinsError C_BadNumber C_BadName C_BadItem C_BadEvent C_BadNote C_TooMany C_Unknown C_Taken C_Refused C_NothingToUndo) K (.ref C_Refused) Prog.isa_Refused
  ik_RuntimeError : IsK (tc K C_CoinsError C_BadNumber C_BadName C_BadItem C_BadEvent C_BadNote C_TooMany C_Unknown C_Taken C_Refused C_NothingToUndo) K (.type "RuntimeError") Prog.isb_RuntimeError
  ik_Taken : IsK (tc K C_CoinsError C_BadNumber C_BadName C_BadItem C_BadEvent C_BadNote C_TooMany C_Unknown C_Taken C_Refused C_NothingToUndo) K (.ref C_Taken) Prog.isa_Taken
  ik_TooMany : IsK (tc K C_CoinsError C_BadNumber C_BadName C_BadItem C_BadEvent C_BadNote C_TooMany C_Unknown C_Taken C_Refused C_NothingToUndo) K (.ref C_TooMany) Prog.isa_TooMany
  ik_Unknown : IsK (tc K C_CoinsError C_BadNumber C_BadName C_BadItem C_BadEvent C_BadNote C_TooMany C_Unknown C_Taken C_Refused C_NothingToUndo) K (.ref C_Unknown) Prog.isa_Unknown
  ik_ValueError : IsK (tc K C_CoinsError C_BadNumber C_BadName C_BadItem C_BadEvent C_BadNote C_TooMany C_Unknown C_Taken C_Refused C_NothingToUndo) K (.type "ValueError") Prog.isb_ValueError
  xf_index : XfA (tc K C_CoinsError C_BadNumber C_BadName C_BadItem C_BadEvent C_BadNote C_TooMany C_Unknown C_Taken C_Refused C_NothingToUndo) K "index" ["BadItem"]
  xf_limit : XfA (tc K C_CoinsError C_BadNumber C_BadName C_BadItem C_BadEvent C_BadNote C_TooMany C_Unknown C_Taken C_Refused C_NothingToUndo) K "limit" ["TooMany"]
  xf_line : XfA (tc K C_CoinsError C_BadNumber C_BadName C_BadItem C_BadEvent C_BadNote C_TooMany C_Unknown C_Taken C_Refused C_NothingToUndo) K "line" ["BadNote"]
  xf_names : XfA (tc K C_CoinsError C_BadNumber C_BadName C_BadItem C_BadEvent C_BadNote C_TooMany C_Unknown C_Taken C_Refused C_NothingToUndo) K "names" ["Refused"]
  xf_reason : XfA (tc K C_CoinsError C_BadNumber C_BadName C_BadItem C_BadEvent C_BadNote C_TooMany C_Unknown C_Taken C_Refused C_NothingToUndo) K "reason" ["Refused"]
  xf_value : XfA (tc K C_CoinsError C_BadNumber C_BadName C_BadItem C_BadEvent C_BadNote C_TooMany C_Unknown C_Taken C_Refused C_NothingToUndo) K "value" ["BadNumber", "BadName", "BadEvent", "Unknown", "Taken"]
  e_BadNumber : ErrC P K mg C_BadNumber cda_BadNumber cc_BadNumber
  i_BadNumber : ErrI K C_BadNumber fI_BadNumber cda_BadNumber cc_BadNumber "BadNumber.__init__" (eA1 "value" ⟨6, 17, 6, 21⟩ ⟨6, 23, 6, 28⟩) [eSup [.Name "value" ⟨7, 25, 7, 30⟩] ⟨7, 8, 7, 13⟩ ⟨7, 8, 7, 15⟩ ⟨7, 8, 7, 24⟩ ⟨7, 8, 7, 31⟩ ⟨7, 8, 7, 31⟩, eSet "value" ⟨8, 8, 8, 12⟩ ⟨8, 8, 8, 18⟩ ⟨8, 21, 8, 26⟩ ⟨8, 8, 8, 26⟩] (eS1 "value")
  o_BadNumber_value : PySem.W.findIn K (.ref C_BadNumber) "value" = some none
  e_BadName : ErrC P K mg C_BadName cda_BadName cc_BadName
  i_BadName : ErrI K C_BadName fI_BadName cda_BadName cc_BadName "BadName.__init__" (eA1 "value" ⟨11, 17, 11, 21⟩ ⟨11, 23, 11, 28⟩) [eSup [.Name "value" ⟨12, 25, 12, 30⟩] ⟨12, 8, 12, 13⟩ ⟨12, 8, 12, 15⟩ ⟨12, 8, 12, 24⟩ ⟨12, 8, 12, 31⟩ ⟨12, 8, 12, 31⟩, eSet "value" ⟨13, 8, 13, 12⟩ ⟨13, 8, 13, 18⟩ ⟨13, 21, 13, 26⟩ ⟨13, 8, 13, 26⟩] (eS1 "value")
  o_BadName_value : PySem.W.findIn K (.ref C_BadName) "value" = some none
  e_BadItem : ErrC P K mg C_BadItem cda_BadItem cc_BadItem
  i_BadItem : ErrI K C_BadItem fI_BadItem cda_BadItem cc_BadItem "BadItem.__init__" (eA1 "index" ⟨16, 17, 16, 21⟩ ⟨16, 23, 16, 28⟩) [eSup [.Name "index" ⟨17, 25, 17, 30⟩] ⟨17, 8, 17, 13⟩ ⟨17, 8, 17, 15⟩ ⟨17, 8, 17, 24⟩ ⟨17, 8, 17, 31⟩ ⟨17, 8, 17, 31⟩, eSet "index" ⟨18, 8, 18, 12⟩ ⟨18, 8, 18, 18⟩ ⟨18, 21, 18, 26⟩ ⟨18, 8, 18, 26⟩] (eS1 "index")
  o_BadItem_index : PySem.W.findIn K (.ref C_BadItem) "index" = some none
  e_BadEvent : ErrC P K mg C_BadEvent cda_BadEvent cc_BadEvent
  i_BadEvent : ErrI K C_BadEvent fI_BadEvent cda_BadEvent cc_BadEvent "BadEvent.__init__" (eA1 "value" ⟨21, 17, 21, 21⟩ ⟨21, 23, 21, 28⟩) [eSup [.Name "value" ⟨22, 25, 22, 30⟩] ⟨22, 8, 22, 13⟩ ⟨22, 8, 22, 15⟩ ⟨22, 8, 22, 24⟩ ⟨22, 8, 22, 31⟩ ⟨22, 8, 22, 31⟩, eSet "value" ⟨23, 8, 23, 12⟩ ⟨23, 8, 23, 18⟩ ⟨23, 21, 23, 26⟩ ⟨23, 8, 23, 26⟩] (eS1 "value")
  o_BadEvent_value : PySem.W.findIn K (.ref C_BadEvent) "value" = some none
  e_BadNote : ErrC P K mg C_BadNote cda_BadNote cc_BadNote
  i_BadNote : ErrI K C_BadNote fI_BadNote cda_BadNote cc_BadNote "BadNote.__init__" (eA1 "line" ⟨26, 17, 26, 21⟩ ⟨26, 23, 26, 27⟩) [eSup [.Name "line" ⟨27, 25, 27, 29⟩] ⟨27, 8, 27, 13⟩ ⟨27, 8, 27, 15⟩ ⟨27, 8, 27, 24⟩ ⟨27, 8, 27, 30⟩ ⟨27, 8, 27, 30⟩, eSet "line" ⟨28, 8, 28, 12⟩ ⟨28, 8, 28, 17⟩ ⟨28, 20, 28, 24⟩ ⟨28, 8, 28, 24⟩] (eS1 "line")
  o_BadNote_line : PySem.W.findIn K (.ref C_BadNote) "line" = some none
  e_TooMany : ErrC P K mg C_TooMany cda_TooMany cc_TooMany
  i_TooMany : ErrI K C_TooMany fI_TooMany cda_TooMany cc_TooMany "TooMany.__init__" (eA1 "limit" ⟨31, 17, 31, 21⟩ ⟨31, 23, 31, 28⟩) [eSup [.Name "limit" ⟨32, 25, 32, 30⟩] ⟨32, 8, 32, 13⟩ ⟨32, 8, 32, 15⟩ ⟨32, 8, 32, 24⟩ ⟨32, 8, 32, 31⟩ ⟨32, 8, 32, 31⟩, eSet "limit" ⟨33, 8, 33, 12⟩ ⟨33, 8, 33, 18⟩ ⟨33, 21, 33, 26⟩ ⟨33, 8, 33, 26⟩] (eS1 "limit")
  o_TooMany_limit : PySem.W.findIn K (.ref C_TooMany) "limit" = some none
  e_Unknown : ErrC P K mg C_Unknown cda_Unknown cc_Unknown
  i_Unknown : ErrI K C_Unknown fI_Unknown cda_Unknown cc_Unknown "Unknown.__init__" (eA1 "value" ⟨36, 17, 36, 21⟩ ⟨36, 23, 36, 28⟩) [eSup [.Name "value" ⟨37, 25, 37, 30⟩] ⟨37, 8, 37, 13⟩ ⟨37, 8, 37, 15⟩ ⟨37, 8, 37, 24⟩ ⟨37, 8, 37, 31⟩ ⟨37, 8, 37, 31⟩, eSet "value" ⟨38, 8, 38, 12⟩ ⟨38, 8, 38, 18⟩ ⟨38, 21, 38, 26⟩ ⟨38, 8, 38, 26⟩] (eS1 "value")
  o_Unknown_value : PySem.W.findIn K (.ref C_Unknown) "value" = some none
  e_Taken : ErrC P K mg C_Taken cda_Taken cc_Taken
  i_Taken : ErrI K C_Taken fI_Taken cda_Taken cc_Taken "Taken.__init__" (eA1 "value" ⟨41, 17, 41, 21⟩ ⟨41, 23, 41, 28⟩) [eSup [.Name "value" ⟨42, 25, 42, 30⟩] ⟨42, 8, 42, 13⟩ ⟨42, 8, 42, 15⟩ ⟨42, 8, 42, 24⟩ ⟨42, 8, 42, 31⟩ ⟨42, 8, 42, 31⟩, eSet "value" ⟨43, 8, 43, 12⟩ ⟨43, 8, 43, 18⟩ ⟨43, 21, 43, 26⟩ ⟨43, 8, 43, 26⟩] (eS1 "value")
  o_Taken_value : PySem.W.findIn K (.ref C_Taken) "value" = some none
  e_Refused : ErrC P K mg C_Refused cda_Refused cc_Refused
  i_Refused : ErrI K C_Refused fI_Refused cda_Refused cc_Refused "Refused.__init__" (eA2 "reason" "names" ⟨46, 17, 46, 21⟩ ⟨46, 23, 46, 29⟩ ⟨46, 31, 46, 36⟩) [eSup [.Name "reason" ⟨47, 25, 47, 31⟩, .Name "names" ⟨47, 33, 47, 38⟩] ⟨47, 8, 47, 13⟩ ⟨47, 8, 47, 15⟩ ⟨47, 8, 47, 24⟩ ⟨47, 8, 47, 39⟩ ⟨47, 8, 47, 39⟩, eSet "reason" ⟨48, 8, 48, 12⟩ ⟨48, 8, 48, 19⟩ ⟨48, 22, 48, 28⟩ ⟨48, 8, 48, 28⟩, eSet "names" ⟨49, 8, 49, 12⟩ ⟨49, 8, 49, 18⟩ ⟨49, 21, 49, 26⟩ ⟨49, 8, 49, 26⟩] (eS2 "reason" "names")
  o_Refused_reason : PySem.W.findIn K (.ref C_Refused) "reason" = some none
  o_Refused_names : PySem.W.findIn K (.ref C_Refused) "names" = some none
section
variable {P : Program} {w : World} {K : PySem.W.Frag} {mg : Str → Option Value} {base : Heap} {f_law_taken f_law_pick f_law_alike f_law_raised f_law : Addr} {fd_law_taken fd_law_pick fd_law_alike fd_law_raised fd_law : FuncData} {C_CoinsError C_BadNumber C_BadName C_BadItem C_BadEvent C_BadNote C_TooMany C_Unknown C_Taken C_Refused C_NothingToUndo fI_BadNumber cda_BadNumber cc_BadNumber fI_BadName cda_BadName cc_BadName fI_BadItem cda_BadItem cc_BadItem fI_BadEvent cda_BadEvent cc_BadEvent fI_BadNote cda_BadNote cc_BadNote fI_TooMany cda_TooMany cc_TooMany fI_Unknown cda_Unknown cc_Unknown fI_Taken cda_Taken cc_Taken fI_Refused cda_Refused cc_Refused : Addr}
theorem c_CoinsError : (tc K C_CoinsError C_BadNumber C_BadName C_BadItem C_BadEvent C_BadNote C_TooMany C_Unknown C_Taken C_Refused C_NothingToUndo).cls "CoinsError" = some C_CoinsError := by
  show (cl_ C_CoinsError C_BadNumber C_BadName C_BadItem C_BadEvent C_BadNote C_TooMany C_Unknown C_Taken C_Refused C_NothingToUndo).lookup ("CoinsError" : Str) = _
  unfold cl_
  exact look_eq
theorem c_BadNumber : (tc K C_CoinsError C_BadNumber C_BadName C_BadItem C_BadEvent C_BadNote C_TooMany C_Unknown C_Taken C_Refused C_NothingToUndo).cls "BadNumber" = some C_BadNumber := by
  show (cl_ C_CoinsError C_BadNumber C_BadName C_BadItem C_BadEvent C_BadNote C_TooMany C_Unknown C_Taken C_Refused C_NothingToUndo).lookup ("BadNumber" : Str) = _
  unfold cl_
  exact (look_ne (by decide)).trans (look_eq)
theorem c_BadName : (tc K C_CoinsError C_BadNumber C_BadName C_BadItem C_BadEvent C_BadNote C_TooMany C_Unknown C_Taken C_Refused C_NothingToUndo).cls "BadName" = some C_BadName := by
  show (cl_ C_CoinsError C_BadNumber C_BadName C_BadItem C_BadEvent C_BadNote C_TooMany C_Unknown C_Taken C_Refused C_NothingToUndo).lookup ("BadName" : Str) = _
  unfold cl_
  exact (look_ne (by decide)).trans ((look_ne (by decide)).trans (look_eq))
theorem c_BadItem : (tc K C_CoinsError C_BadNumber C_BadName C_BadItem C_BadEvent C_BadNote C_TooMany C_Unknown C_Taken C_Refused C_NothingToUndo).cls "BadItem" = some C_BadItem := by
  show (cl_ C_CoinsError C_BadNumber C_BadName C_BadItem C_BadEvent C_BadNote C_TooMany C_Unknown C_Taken C_Refused C_NothingToUndo).lookup ("BadItem" : Str) = _
  unfold cl_
  exact (look_ne (by decide)).trans ((look_ne (by decide)).trans ((look_ne (by decide)).trans (look_eq)))
theorem c_BadEvent : (tc K C_CoinsError C_BadNumber C_BadName C_BadItem C_BadEvent C_BadNote C_TooMany C_Unknown C_Taken C_Refused C_NothingToUndo).cls "BadEvent" = some C_BadEvent := by
  show (cl_ C_CoinsError C_BadNumber C_BadName C_BadItem C_BadEvent C_BadNote C_TooMany C_Unknown C_Taken C_Refused C_NothingToUndo).lookup ("BadEvent" : Str) = _
  unfold cl_
  exact (look_ne (by decide)).trans ((look_ne (by decide)).trans ((look_ne (by decide)).trans ((look_ne (by decide)).trans (look_eq))))
theorem c_BadNote : (tc K C_CoinsError C_BadNumber C_BadName C_BadItem C_BadEvent C_BadNote C_TooMany C_Unknown C_Taken C_Refused C_NothingToUndo).cls "BadNote" = some C_BadNote := by
  show (cl_ C_CoinsError C_BadNumber C_BadName C_BadItem C_BadEvent C_BadNote C_TooMany C_Unknown C_Taken C_Refused C_NothingToUndo).lookup ("BadNote" : Str) = _
  unfold cl_
  exact (look_ne (by decide)).trans ((look_ne (by decide)).trans ((look_ne (by decide)).trans ((look_ne (by decide)).trans ((look_ne (by decide)).trans (look_eq)))))
theorem c_TooMany : (tc K C_CoinsError C_BadNumber C_BadName C_BadItem C_BadEvent C_BadNote C_TooMany C_Unknown C_Taken C_Refused C_NothingToUndo).cls "TooMany" = some C_TooMany := by
  show (cl_ C_CoinsError C_BadNumber C_BadName C_BadItem C_BadEvent C_BadNote C_TooMany C_Unknown C_Taken C_Refused C_NothingToUndo).lookup ("TooMany" : Str) = _
  unfold cl_
  exact (look_ne (by decide)).trans ((look_ne (by decide)).trans ((look_ne (by decide)).trans ((look_ne (by decide)).trans ((look_ne (by decide)).trans ((look_ne (by decide)).trans (look_eq))))))
theorem c_Unknown : (tc K C_CoinsError C_BadNumber C_BadName C_BadItem C_BadEvent C_BadNote C_TooMany C_Unknown C_Taken C_Refused C_NothingToUndo).cls "Unknown" = some C_Unknown := by
  show (cl_ C_CoinsError C_BadNumber C_BadName C_BadItem C_BadEvent C_BadNote C_TooMany C_Unknown C_Taken C_Refused C_NothingToUndo).lookup ("Unknown" : Str) = _
  unfold cl_
  exact (look_ne (by decide)).trans ((look_ne (by decide)).trans ((look_ne (by decide)).trans ((look_ne (by decide)).trans ((look_ne (by decide)).trans ((look_ne (by decide)).trans ((look_ne (by decide)).trans (look_eq)))))))
theorem c_Taken : (tc K C_CoinsError C_BadNumber C_BadName C_BadItem C_BadEvent C_BadNote C_TooMany C_Unknown C_Taken C_Refused C_NothingToUndo).cls "Taken" = some C_Taken := by
  show (cl_ C_CoinsError C_BadNumber C_BadName C_BadItem C_BadEvent C_BadNote C_TooMany C_Unknown C_Taken C_Refused C_NothingToUndo).lookup ("Taken" : Str) = _
  unfold cl_
  exact (look_ne (by decide)).trans ((look_ne (by decide)).trans ((look_ne (by decide)).trans ((look_ne (by decide)).trans ((look_ne (by decide)).trans ((look_ne (by decide)).trans ((look_ne (by decide)).trans ((look_ne (by decide)).trans (look_eq))))))))
theorem c_Refused : (tc K C_CoinsError C_BadNumber C_BadName C_BadItem C_BadEvent C_BadNote C_TooMany C_Unknown C_Taken C_Refused C_NothingToUndo).cls "Refused" = some C_Refused := by
  show (cl_ C_CoinsError C_BadNumber C_BadName C_BadItem C_BadEvent C_BadNote C_TooMany C_Unknown C_Taken C_Refused C_NothingToUndo).lookup ("Refused" : Str) = _
  unfold cl_
  exact (look_ne (by decide)).trans ((look_ne (by decide)).trans ((look_ne (by decide)).trans ((look_ne (by decide)).trans ((look_ne (by decide)).trans ((look_ne (by decide)).trans ((look_ne (by decide)).trans ((look_ne (by decide)).trans ((look_ne (by decide)).trans (look_eq)))))))))
theorem c_NothingToUndo : (tc K C_CoinsError C_BadNumber C_BadName C_BadItem C_BadEvent C_BadNote C_TooMany C_Unknown C_Taken C_Refused C_NothingToUndo).cls "NothingToUndo" = some C_NothingToUndo := by
  show (cl_ C_CoinsError C_BadNumber C_BadName C_BadItem C_BadEvent C_BadNote C_TooMany C_Unknown C_Taken C_Refused C_NothingToUndo).lookup ("NothingToUndo" : Str) = _
  unfold cl_
  exact (look_ne (by decide)).trans ((look_ne (by decide)).trans ((look_ne (by decide)).trans ((look_ne (by decide)).trans ((look_ne (by decide)).trans ((look_ne (by decide)).trans ((look_ne (by decide)).trans ((look_ne (by decide)).trans ((look_ne (by decide)).trans ((look_ne (by decide)).trans (look_eq))))))))))
theorem ba_BadNumber (kV doc pm : Value) (an : Option Addr) (ct x v0 : Value) : bindArgs (PySem.W.ksFn "__init__" "BadNumber.__init__" (eA1 "value" ⟨6, 17, 6, 21⟩ ⟨6, 23, 6, 28⟩) [eSup [.Name "value" ⟨7, 25, 7, 30⟩] ⟨7, 8, 7, 13⟩ ⟨7, 8, 7, 15⟩ ⟨7, 8, 7, 24⟩ ⟨7, 8, 7, 31⟩ ⟨7, 8, 7, 31⟩, eSet "value" ⟨8, 8, 8, 12⟩ ⟨8, 8, 8, 18⟩ ⟨8, 21, 8, 26⟩ ⟨8, 8, 8, 26⟩] (eS1 "value") .none kV doc pm an (.ref cda_BadNumber) ct cc_BadNumber) ⟨[x, v0], []⟩ = pure [(("self" : Str), x), (("value" : Str), v0)] := by first | rfl | with_unfolding_all rfl
theorem bk_BadNumber (kV doc pm : Value) (an : Option Addr) (ct x v0 : Value) : bindArgs (PySem.W.ksFn "__init__" "BadNumber.__init__" (eA1 "value" ⟨6, 17, 6, 21⟩ ⟨6, 23, 6, 28⟩) [eSup [.Name "value" ⟨7, 25, 7, 30⟩] ⟨7, 8, 7, 13⟩ ⟨7, 8, 7, 15⟩ ⟨7, 8, 7, 24⟩ ⟨7, 8, 7, 31⟩ ⟨7, 8, 7, 31⟩, eSet "value" ⟨8, 8, 8, 12⟩ ⟨8, 8, 8, 18⟩ ⟨8, 21, 8, 26⟩ ⟨8, 8, 8, 26⟩] (eS1 "value") .none kV doc pm an (.ref cda_BadNumber) ct cc_BadNumber) ⟨[x], [("value", v0)]⟩ = pure [(("self" : Str), x), ("value", v0)] := by first | rfl | with_unfolding_all rfl
theorem sc_BadNumber (L : Addr) : SupCall (PySem.W.ksEnv "BadNumber.__init__" (eS1 "value") L fI_BadNumber (.ref cda_BadNumber) cc_BadNumber) ⟨7, 8, 7, 13⟩ ⟨7, 8, 7, 15⟩ ⟨7, 8, 7, 24⟩ ⟨7, 8, 7, 31⟩ [.Name "value" ⟨7, 25, 7, 30⟩] := ⟨_, by rfl⟩
theorem ba_BadName (kV doc pm : Value) (an : Option Addr) (ct x v0 : Value) : bindArgs (PySem.W.ksFn "__init__" "BadName.__init__" (eA1 "value" ⟨11, 17, 11, 21⟩ ⟨11, 23, 11, 28⟩) [eSup [.Name "value" ⟨12, 25, 12, 30⟩] ⟨12, 8, 12, 13⟩ ⟨12, 8, 12, 15⟩ ⟨12, 8, 12, 24⟩ ⟨12, 8, 12, 31⟩ ⟨12, 8, 12, 31⟩, eSet "value" ⟨13, 8, 13, 12⟩ ⟨13, 8, 13, 18⟩ ⟨13, 21, 13, 26⟩ ⟨13, 8, 13, 26⟩] (eS1 "value") .none kV doc pm an (.ref cda_BadName) ct cc_BadName) ⟨[x, v0], []⟩ = pure [(("self" : Str), x), (("value" : Str), v0)] := by first | rfl | with_unfolding_all rfl
theorem bk_BadName (kV doc pm : Value) (an : Option Addr) (ct x v0 : Value) : bindArgs (PySem.W.ksFn "__init__" "BadName.__init__" (eA1 "value" ⟨11, 17, 11, 21⟩ ⟨11, 23, 11, 28⟩) [eSup [.Name "value" ⟨12, 25, 12, 30⟩] ⟨12, 8, 12, 13⟩ ⟨12, 8, 12, 15⟩ ⟨12, 8, 12, 24⟩ ⟨12, 8, 12, 31⟩ ⟨12, 8, 12, 31⟩, eSet "value" ⟨13, 8, 13, 12⟩ ⟨13, 8, 13, 18⟩ ⟨13, 21, 13, 26⟩ ⟨13, 8, 13, 26⟩] (eS1 "value") .none kV doc pm an (.ref cda_BadName) ct cc_BadName) ⟨[x], [("value", v0)]⟩ = pure [(("self" : Str), x), ("value", v0)] := by first | rfl | with_unfolding_all rfl
theorem sc_BadName (L : Addr) : SupCall (PySem.W.ksEnv "BadName.__init__" (eS1 "value") L fI_BadName (.ref cda_BadName) cc_BadName) ⟨12, 8, 12, 13⟩ ⟨12, 8, 12, 15⟩ ⟨12, 8, 12, 24⟩ ⟨12, 8, 12, 31⟩ [.Name "value" ⟨12, 25, 12, 30⟩] := ⟨_, by rfl⟩
theorem ba_BadItem (kV doc pm : Value) (an : Option Addr) (ct x v0 : Value) : bindArgs (PySem.W.ksFn "__init__" "BadItem.__init__" (eA1 "index" ⟨16, 17, 16, 21⟩ ⟨16, 23, 16, 28⟩) [eSup [.Name "index" ⟨17, 25, 17, 30⟩] ⟨17, 8, 17, 13⟩ ⟨17, 8, 17, 15⟩ ⟨17, 8, 17, 24⟩ ⟨17, 8, 17, 31⟩ ⟨17, 8, 17, 31⟩, eSet "index" ⟨18, 8, 18, 12⟩ ⟨18, 8, 18, 18⟩ ⟨18, 21, 18, 26⟩ ⟨18, 8, 18, 26⟩] (eS1 "index") .none kV doc pm an (.ref cda_BadItem) ct cc_BadItem) ⟨[x, v0], []⟩ = pure [(("self" : Str), x), (("index" : Str), v0)] := by first | rfl | with_unfolding_all rfl
theorem bk_BadItem (kV doc pm : Value) (an : Option Addr) (ct x v0 : Value) : bindArgs (PySem.W.ksFn "__init__" "BadItem.__init__" (eA1 "index" ⟨16, 17, 16, 21⟩ ⟨16, 23, 16, 28⟩) [eSup [.Name "index" ⟨17, 25, 17, 30⟩] ⟨17, 8, 17, 13⟩ ⟨17, 8, 17, 15⟩ ⟨17, 8, 17, 24⟩ ⟨17, 8, 17, 31⟩ ⟨17, 8, 17, 31⟩, eSet "index" ⟨18, 8, 18, 12⟩ ⟨18, 8, 18, 18⟩ ⟨18, 21, 18, 26⟩ ⟨18, 8, 18, 26⟩] (eS1 "index") .none kV doc pm an (.ref cda_BadItem) ct cc_BadItem) ⟨[x], [("index", v0)]⟩ = pure [(("self" : Str), x), ("index", v0)] := by first | rfl | with_unfolding_all rfl
theorem sc_BadItem (L : Addr) : SupCall (PySem.W.ksEnv "BadItem.__init__" (eS1 "index") L fI_BadItem (.ref cda_BadItem) cc_BadItem) ⟨17, 8, 17, 13⟩ ⟨17, 8, 17, 15⟩ ⟨17, 8, 17, 24⟩ ⟨17, 8, 17, 31⟩ [.Name "index" ⟨17, 25, 17, 30⟩] := ⟨_, by rfl⟩
theorem ba_BadEvent (kV doc pm : Value) (an : Option Addr) (ct x v0 : Value) : bindArgs (PySem.W.ksFn "__init__" "BadEvent.__init__" (eA1 "value" ⟨21, 17, 21, 21⟩ ⟨21, 23, 21, 28⟩) [eSup [.Name "value" ⟨22, 25, 22, 30⟩] ⟨22, 8, 22, 13⟩ ⟨22, 8, 22, 15⟩ ⟨22, 8, 22, 24⟩ ⟨22, 8, 22, 31⟩ ⟨22, 8, 22, 31⟩, eSet "value" ⟨23, 8, 23, 12⟩ ⟨23, 8, 23, 18⟩ ⟨23, 21, 23, 26⟩ ⟨23, 8, 23, 26⟩] (eS1 "value") .none kV doc pm an (.ref cda_BadEvent) ct cc_BadEvent) ⟨[x, v0], []⟩ = pure [(("self" : Str), x), (("value" : Str), v0)] := by first | rfl | with_unfolding_all rfl
theorem bk_BadEvent (kV doc pm : Value) (an : Option Addr) (ct x v0 : Value) : bindArgs (PySem.W.ksFn "__init__" "BadEvent.__init__" (eA1 "value" ⟨21, 17, 21, 21⟩ ⟨21, 23, 21, 28⟩) [eSup [.Name "value" ⟨22, 25, 22, 30⟩] ⟨22, 8, 22, 13⟩ ⟨22, 8, 22, 15⟩ ⟨22, 8, 22, 24⟩ ⟨22, 8, 22, 31⟩ ⟨22, 8, 22, 31⟩, eSet "value" ⟨23, 8, 23, 12⟩ ⟨23, 8, 23, 18⟩ ⟨23, 21, 23, 26⟩ ⟨23, 8, 23, 26⟩] (eS1 "value") .none kV doc pm an (.ref cda_BadEvent) ct cc_BadEvent) ⟨[x], [("value", v0)]⟩ = pure [(("self" : Str), x), ("value", v0)] := by first | rfl | with_unfolding_all rfl
theorem sc_BadEvent (L : Addr) : SupCall (PySem.W.ksEnv "BadEvent.__init__" (eS1 "value") L fI_BadEvent (.ref cda_BadEvent) cc_BadEvent) ⟨22, 8, 22, 13⟩ ⟨22, 8, 22, 15⟩ ⟨22, 8, 22, 24⟩ ⟨22, 8, 22, 31⟩ [.Name "value" ⟨22, 25, 22, 30⟩] := ⟨_, by rfl⟩
theorem ba_BadNote (kV doc pm : Value) (an : Option Addr) (ct x v0 : Value) : bindArgs (PySem.W.ksFn "__init__" "BadNote.__init__" (eA1 "line" ⟨26, 17, 26, 21⟩ ⟨26, 23, 26, 27⟩) [eSup [.Name "line" ⟨27, 25, 27, 29⟩] ⟨27, 8, 27, 13⟩ ⟨27, 8, 27, 15⟩ ⟨27, 8, 27, 24⟩ ⟨27, 8, 27, 30⟩ ⟨27, 8, 27, 30⟩, eSet "line" ⟨28, 8, 28, 12⟩ ⟨28, 8, 28, 17⟩ ⟨28, 20, 28, 24⟩ ⟨28, 8, 28, 24⟩] (eS1 "line") .none kV doc pm an (.ref cda_BadNote) ct cc_BadNote) ⟨[x, v0], []⟩ = pure [(("self" : Str), x), (("line" : Str), v0)] := by first | rfl | with_unfolding_all rfl
theorem bk_BadNote (kV doc pm : Value) (an : Option Addr) (ct x v0 : Value) : bindArgs (PySem.W.ksFn "__init__" "BadNote.__init__" (eA1 "line" ⟨26, 17, 26, 21⟩ ⟨26, 23, 26, 27⟩) [eSup [.Name "line" ⟨27, 25, 27, 29⟩] ⟨27, 8, 27, 13⟩ ⟨27, 8, 27, 15⟩ ⟨27, 8, 27, 24⟩ ⟨27, 8, 27, 30⟩ ⟨27, 8, 27, 30⟩, eSet "line" ⟨28, 8, 28, 12⟩ ⟨28, 8, 28, 17⟩ ⟨28, 20, 28, 24⟩ ⟨28, 8, 28, 24⟩] (eS1 "line") .none kV doc pm an (.ref cda_BadNote) ct cc_BadNote) ⟨[x], [("line", v0)]⟩ = pure [(("self" : Str), x), ("line", v0)] := by first | rfl | with_unfolding_all rfl
theorem sc_BadNote (L : Addr) : SupCall (PySem.W.ksEnv "BadNote.__init__" (eS1 "line") L fI_BadNote (.ref cda_BadNote) cc_BadNote) ⟨27, 8, 27, 13⟩ ⟨27, 8, 27, 15⟩ ⟨27, 8, 27, 24⟩ ⟨27, 8, 27, 30⟩ [.Name "line" ⟨27, 25, 27, 29⟩] := ⟨_, by rfl⟩
theorem ba_TooMany (kV doc pm : Value) (an : Option Addr) (ct x v0 : Value) : bindArgs (PySem.W.ksFn "__init__" "TooMany.__init__" (eA1 "limit" ⟨31, 17, 31, 21⟩ ⟨31, 23, 31, 28⟩) [eSup [.Name "limit" ⟨32, 25, 32, 30⟩] ⟨32, 8, 32, 13⟩ ⟨32, 8, 32, 15⟩ ⟨32, 8, 32, 24⟩ ⟨32, 8, 32, 31⟩ ⟨32, 8, 32, 31⟩, eSet "limit" ⟨33, 8, 33, 12⟩ ⟨33, 8, 33, 18⟩ ⟨33, 21, 33, 26⟩ ⟨33, 8, 33, 26⟩] (eS1 "limit") .none kV doc pm an (.ref cda_TooMany) ct cc_TooMany) ⟨[x, v0], []⟩ = pure [(("self" : Str), x), (("limit" : Str), v0)] := by first | rfl | with_unfolding_all rfl
theorem bk_TooMany (kV doc pm : Value) (an : Option Addr) (ct x v0 : Value) : bindArgs (PySem.W.ksFn "__init__" "TooMany.__init__" (eA1 "limit" ⟨31, 17, 31, 21⟩ ⟨31, 23, 31, 28⟩) [eSup [.Name "limit" ⟨32, 25, 32, 30⟩] ⟨32, 8, 32, 13⟩ ⟨32, 8, 32, 15⟩ ⟨32, 8, 32, 24⟩ ⟨32, 8, 32, 31⟩ ⟨32, 8, 32, 31⟩, eSet "limit" ⟨33, 8, 33, 12⟩ ⟨33, 8, 33, 18⟩ ⟨33, 21, 33, 26⟩ ⟨33, 8, 33, 26⟩] (eS1 "limit") .none kV doc pm an (.ref cda_TooMany) ct cc_TooMany) ⟨[x], [("limit", v0)]⟩ = pure [(("self" : Str), x), ("limit", v0)] := by first | rfl | with_unfolding_all rfl
theorem sc_TooMany (L : Addr) : SupCall (PySem.W.ksEnv "TooMany.__init__" (eS1 "limit") L fI_TooMany (.ref cda_TooMany) cc_TooMany) ⟨32, 8, 32, 13⟩ ⟨32, 8, 32, 15⟩ ⟨32, 8, 32, 24⟩ ⟨32, 8, 32, 31⟩ [.Name "limit" ⟨32, 25, 32, 30⟩] := ⟨_, by rfl⟩
theorem ba_Unknown (kV doc pm : Value) (an : Option Addr) (ct x v0 : Value) : bindArgs (PySem.W.ksFn "__init__" "Unknown.__init__" (eA1 "value" ⟨36, 17, 36, 21⟩ ⟨36, 23, 36, 28⟩) [eSup [.Name "value" ⟨37, 25, 37, 30⟩] ⟨37, 8, 37, 13⟩ ⟨37, 8, 37, 15⟩ ⟨37, 8, 37, 24⟩ ⟨37, 8, 37, 31⟩ ⟨37, 8, 37, 31⟩, eSet "value" ⟨38, 8, 38, 12⟩ ⟨38, 8, 38, 18⟩ ⟨38, 21, 38, 26⟩ ⟨38, 8, 38, 26⟩] (eS1 "value") .none kV doc pm an (.ref cda_Unknown) ct cc_Unknown) ⟨[x, v0], []⟩ = pure [(("self" : Str), x), (("value" : Str), v0)] := by first | rfl | with_unfolding_all rfl
theorem bk_Unknown (kV doc pm : Value) (an : Option Addr) (ct x v0 : Value) : bindArgs (PySem.W.ksFn "__init__" "Unknown.__init__" (eA1 "value" ⟨36, 17, 36, 21⟩ ⟨36, 23, 36, 28⟩) [eSup [.Name "value" ⟨37, 25, 37, 30⟩] ⟨37, 8, 37, 13⟩ ⟨37, 8, 37, 15⟩ ⟨37, 8, 37, 24⟩ ⟨37, 8, 37, 31⟩ ⟨37, 8, 37, 31⟩, eSet "value" ⟨38, 8, 38, 12⟩ ⟨38, 8, 38, 18⟩ ⟨38, 21, 38, 26⟩ ⟨38, 8, 38, 26⟩] (eS1 "value") .none kV doc pm an (.ref cda_Unknown) ct cc_Unknown) ⟨[x], [("value", v0)]⟩ = pure [(("self" : Str), x), ("value", v0)] := by first | rfl | with_unfolding_all rfl
theorem sc_Unknown (L : Addr) : SupCall (PySem.W.ksEnv "Unknown.__init__" (eS1 "value") L fI_Unknown (.ref cda_Unknown) cc_Unknown) ⟨37, 8, 37, 13⟩ ⟨37, 8, 37, 15⟩ ⟨37, 8, 37, 24⟩ ⟨37, 8, 37, 31⟩ [.Name "value" ⟨37, 25, 37, 30⟩] := ⟨_, by rfl⟩
theorem ba_Taken (kV doc pm : Value) (an : Option Addr) (ct x v0 : Value) : bindArgs (PySem.W.ksFn "__init__" "Taken.__init__" (eA1 "value" ⟨41, 17, 41, 21⟩ ⟨41, 23, 41, 28⟩) [eSup [.Name "value" ⟨42, 25, 42, 30⟩] ⟨42, 8, 42, 13⟩ ⟨42, 8, 42, 15⟩ ⟨42, 8, 42, 24⟩ ⟨42, 8, 42, 31⟩ ⟨42, 8, 42, 31⟩, eSet "value" ⟨43, 8, 43, 12⟩ ⟨43, 8, 43, 18⟩ ⟨43, 21, 43, 26⟩ ⟨43, 8, 43, 26⟩] (eS1 "value") .none kV doc pm an (.ref cda_Taken) ct cc_Taken) ⟨[x, v0], []⟩ = pure [(("self" : Str), x), (("value" : Str), v0)] := by first | rfl | with_unfolding_all rfl
theorem bk_Taken (kV doc pm : Value) (an : Option Addr) (ct x v0 : Value) : bindArgs (PySem.W.ksFn "__init__" "Taken.__init__" (eA1 "value" ⟨41, 17, 41, 21⟩ ⟨41, 23, 41, 28⟩) [eSup [.Name "value" ⟨42, 25, 42, 30⟩] ⟨42, 8, 42, 13⟩ ⟨42, 8, 42, 15⟩ ⟨42, 8, 42, 24⟩ ⟨42, 8, 42, 31⟩ ⟨42, 8, 42, 31⟩, eSet "value" ⟨43, 8, 43, 12⟩ ⟨43, 8, 43, 18⟩ ⟨43, 21, 43, 26⟩ ⟨43, 8, 43, 26⟩] (eS1 "value") .none kV doc pm an (.ref cda_Taken) ct cc_Taken) ⟨[x], [("value", v0)]⟩ = pure [(("self" : Str), x), ("value", v0)] := by first | rfl | with_unfolding_all rfl
theorem sc_Taken (L : Addr) : SupCall (PySem.W.ksEnv "Taken.__init__" (eS1 "value") L fI_Taken (.ref cda_Taken) cc_Taken) ⟨42, 8, 42, 13⟩ ⟨42, 8, 42, 15⟩ ⟨42, 8, 42, 24⟩ ⟨42, 8, 42, 31⟩ [.Name "value" ⟨42, 25, 42, 30⟩] := ⟨_, by rfl⟩
theorem ba_Refused (kV doc pm : Value) (an : Option Addr) (ct x v0 v1 : Value) : bindArgs (PySem.W.ksFn "__init__" "Refused.__init__" (eA2 "reason" "names" ⟨46, 17, 46, 21⟩ ⟨46, 23, 46, 29⟩ ⟨46, 31, 46, 36⟩) [eSup [.Name "reason" ⟨47, 25, 47, 31⟩, .Name "names" ⟨47, 33, 47, 38⟩] ⟨47, 8, 47, 13⟩ ⟨47, 8, 47, 15⟩ ⟨47, 8, 47, 24⟩ ⟨47, 8, 47, 39⟩ ⟨47, 8, 47, 39⟩, eSet "reason" ⟨48, 8, 48, 12⟩ ⟨48, 8, 48, 19⟩ ⟨48, 22, 48, 28⟩ ⟨48, 8, 48, 28⟩, eSet "names" ⟨49, 8, 49, 12⟩ ⟨49, 8, 49, 18⟩ ⟨49, 21, 49, 26⟩ ⟨49, 8, 49, 26⟩] (eS2 "reason" "names") .none kV doc pm an (.ref cda_Refused) ct cc_Refused) ⟨[x, v0, v1], []⟩ = pure [(("self" : Str), x), (("reason" : Str), v0), (("names" : Str), v1)] := by first | rfl | with_unfolding_all rfl
theorem bk_Refused (kV doc pm : Value) (an : Option Addr) (ct x v0 v1 : Value) : bindArgs (PySem.W.ksFn "__init__" "Refused.__init__" (eA2 "reason" "names" ⟨46, 17, 46, 21⟩ ⟨46, 23, 46, 29⟩ ⟨46, 31, 46, 36⟩) [eSup [.Name "reason" ⟨47, 25, 47, 31⟩, .Name "names" ⟨47, 33, 47, 38⟩] ⟨47, 8, 47, 13⟩ ⟨47, 8, 47, 15⟩ ⟨47, 8, 47, 24⟩ ⟨47, 8, 47, 39⟩ ⟨47, 8, 47, 39⟩, eSet "reason" ⟨48, 8, 48, 12⟩ ⟨48, 8, 48, 19⟩ ⟨48, 22, 48, 28⟩ ⟨48, 8, 48, 28⟩, eSet "names" ⟨49, 8, 49, 12⟩ ⟨49, 8, 49, 18⟩ ⟨49, 21, 49, 26⟩ ⟨49, 8, 49, 26⟩] (eS2 "reason" "names") .none kV doc pm an (.ref cda_Refused) ct cc_Refused) ⟨[x], [("reason", v0), ("names", v1)]⟩ = pure [(("self" : Str), x), ("reason", v0), ("names", v1)] := by first | rfl | with_unfolding_all rfl
theorem bl_Refused (kV doc pm : Value) (an : Option Addr) (ct x v0 v1 : Value) : bindArgs (PySem.W.ksFn "__init__" "Refused.__init__" (eA2 "reason" "names" ⟨46, 17, 46, 21⟩ ⟨46, 23, 46, 29⟩ ⟨46, 31, 46, 36⟩) [eSup [.Name "reason" ⟨47, 25, 47, 31⟩, .Name "names" ⟨47, 33, 47, 38⟩] ⟨47, 8, 47, 13⟩ ⟨47, 8, 47, 15⟩ ⟨47, 8, 47, 24⟩ ⟨47, 8, 47, 39⟩ ⟨47, 8, 47, 39⟩, eSet "reason" ⟨48, 8, 48, 12⟩ ⟨48, 8, 48, 19⟩ ⟨48, 22, 48, 28⟩ ⟨48, 8, 48, 28⟩, eSet "names" ⟨49, 8, 49, 12⟩ ⟨49, 8, 49, 18⟩ ⟨49, 21, 49, 26⟩ ⟨49, 8, 49, 26⟩] (eS2 "reason" "names") .none kV doc pm an (.ref cda_Refused) ct cc_Refused) ⟨[x], [("names", v1), ("reason", v0)]⟩ = pure [(("self" : Str), x), ("reason", v0), ("names", v1)] := by first | rfl | with_unfolding_all rfl
theorem sc_Refused (L : Addr) : SupCall (PySem.W.ksEnv "Refused.__init__" (eS2 "reason" "names") L fI_Refused (.ref cda_Refused) cc_Refused) ⟨47, 8, 47, 13⟩ ⟨47, 8, 47, 15⟩ ⟨47, 8, 47, 24⟩ ⟨47, 8, 47, 39⟩ [.Name "reason" ⟨47, 25, 47, 31⟩, .Name "names" ⟨47, 33, 47, 38⟩] := ⟨_, by rfl⟩
theorem s_law_taken : FnScope ["row", "many", "found", "cell"] ["row", "many"] (defScope (top 13)) := ⟨rfl, rfl, rfl, by decide +kernel, rfl, by decide +kernel, by decide +kernel⟩
theorem ok_law_taken (X0 : Txt P K mg f_law_taken f_law_pick f_law_alike f_law_raised f_law fd_law_taken fd_law_pick fd_law_alike fd_law_raised fd_law C_CoinsError C_BadNumber C_BadName C_BadItem C_BadEvent C_BadNote C_TooMany C_Unknown C_Taken C_Refused C_NothingToUndo fI_BadNumber cda_BadNumber cc_BadNumber fI_BadName cda_BadName cc_BadName fI_BadItem cda_BadItem cc_BadItem fI_BadEvent cda_BadEvent cc_BadEvent fI_BadNote cda_BadNote cc_BadNote fI_TooMany cda_TooMany cc_TooMany fI_Unknown cda_Unknown cc_Unknown fI_Taken cda_Taken cc_Taken fI_Refused cda_Refused cc_Refused) : FnG P w K mg base (1) f_law_taken fd_law_taken ["row", "many"] (spM (tc K C_CoinsError C_BadNumber C_BadName C_BadItem C_BadEvent C_BadNote C_TooMany C_Unknown C_Taken C_Refused C_NothingToUndo) (m_law_taken) 2) := by
  have sc := s_law_taken
  exact
      def_of (T := tc K C_CoinsError C_BadNumber C_BadName C_BadItem C_BadEvent C_BadNote C_TooMany C_Unknown C_Taken C_Refused C_NothingToUndo) (N := ["row", "many", "found", "cell"]) (ps := ["row", "many"]) (k := 0) (m := b_law_taken) X0.F_law_taken sc fun cdv A outer s H E hr hgd =>
    (z_cons (y_if (q_cmp op_gt g_gt (r_ixR (by rfl) (by have h := Mir.u1 hr; exact h) (rf_name 0) r_int (by exact fun _ _ => rfl)) r_int (by first | exact nomark _ | with_unfolding_all rfl)) (z_cons (y_set (i := 2) sc.nd (by rfl) (by first | exact Or.inl rfl | exact Or.inr rfl) (r_bin op_mod g_mod (r_callTy call_int1 g_int (by rfl) X0.n_int (by first | boot_by_name | rfl | kernel_rfl) (s_cons (r_ixR (by rfl) (by have h := Mir.u1 hr; exact h) (rf_name 0) r_int (by exact fun _ _ => rfl)) s_nil (by rfl)) (by decide) (by decide) (by rfl) (by rfl)) (r_var 1)) (by rfl) (by first | exact .inl rfl | exact .inr rfl))
    (z_cons (y_ix (by have h := Mir.u1 hr; exact h) (rf_name 0) r_int (r_bin op_fdiv g_fdiv (r_ixR (by rfl) (by have h := Mir.u1 hr; exact h) (rf_name 0) r_int (by exact fun _ _ => rfl)) (r_var 1)) (by intro _; rfl) (by rfl) (by rfl) (by rfl))
    (z_one (y_ret (r_var 2))))) z_nil)
    (z_cons (y_ix (by have h := Mir.u1 hr; exact h) (rf_name 0) r_int (r_bin op_addM g_add (r_ixR (by rfl) (by have h := Mir.u1 hr; exact h) (rf_name 0) r_int (by exact fun _ _ => rfl)) r_int) (by intro _; rfl) (by rfl) (by rfl) (by rfl))
    (z_cons (y_if (q_cmp op_gt g_gt (r_ixR (by rfl) (by have h := Mir.u1 hr; exact h) (rf_name 0) r_int (by exact fun _ _ => rfl)) (r_callB call_lenM g_len (by rfl) X0.n_len (by first | boot_by_name | rfl | kernel_rfl) (s_cons (r_ixR (by rfl) (by have h := Mir.u1 hr; exact h) (rf_name 0) r_int (by exact fun _ _ => rfl)) s_nil (by rfl)) (by decide) (by decide) (by rfl) (by rfl)) (by first | exact nomark _ | with_unfolding_all rfl)) (z_cons (y_ix (by have h := Mir.u1 hr; exact h) (rf_name 0) r_int (r_bin op_mod g_mod (r_callTy call_int1 g_int (by rfl) X0.n_int (by first | boot_by_name | rfl | kernel_rfl) (s_cons (r_bin op_addM g_add (r_bin op_mulM g_mul (r_ixR (by rfl) (by have h := Mir.u1 hr; exact h) (rf_name 0) r_int (by exact fun _ _ => rfl)) r_int) r_int) s_nil (by rfl)) (by decide) (by decide) (by rfl) (by rfl)) r_int) (by intro _; rfl) (by rfl) (by rfl) (by rfl))
    (z_one (y_ret (r_bin op_mod g_mod (r_callTy call_int1 g_int (by rfl) X0.n_int (by first | boot_by_name | rfl | kernel_rfl) (s_cons (r_bin op_fdiv g_fdiv (r_ixR (by rfl) (by have h := Mir.u1 hr; exact h) (rf_name 0) r_int (by exact fun _ _ => rfl)) r_int) s_nil (by rfl)) (by decide) (by decide) (by rfl) (by rfl)) (r_var 1))))) z_nil)
    (z_cons (y_set (i := 3) sc.nd (by rfl) (by first | exact Or.inl rfl | exact Or.inr rfl) (r_ix (by rfl) (by have h := Mir.u1 hr; exact h) (r_ixR (by rfl) (by have h := Mir.u1 hr; exact h) (rf_name 0) r_int (by exact fun _ _ => rfl)) (r_bin op_sub g_sub (r_ixR (by rfl) (by have h := Mir.u1 hr; exact h) (rf_name 0) r_int (by exact fun _ _ => rfl)) r_int) (by exact fun _ _ => rfl)) (by rfl) (by first | exact .inl rfl | exact .inr rfl))
    (z_cons (y_ix (by have h := Mir.u1 hr; exact h) (rf_name 0) r_int (r_bin op_mod g_mod (r_callTy call_int1 g_int (by rfl) X0.n_int (by first | boot_by_name | rfl | kernel_rfl) (s_cons (r_bin op_addM g_add (r_bin op_addM g_add (r_bin op_mulM g_mul (r_ixR (by rfl) (by have h := Mir.u1 hr; exact h) (rf_name 0) r_int (by exact fun _ _ => rfl)) r_int) (r_var 3)) r_int) s_nil (by rfl)) (by decide) (by decide) (by rfl) (by rfl)) r_int) (by intro _; rfl) (by rfl) (by rfl) (by rfl))
    (z_cons (y_if (q_cmp op_ge g_ge (r_var 3) (r_bin op_pow g_pow r_int r_int) (by first | exact nomark _ | with_unfolding_all rfl)) (z_one (y_ix (by have h := Mir.u1 hr; exact h) (rf_name 0) r_int (r_bin op_fdiv g_fdiv (r_var 3) (r_var 1)) (by intro _; rfl) (by rfl) (by rfl) (by rfl))) z_nil)
    (z_one (y_ret (r_bin op_mod g_mod (r_callTy call_int1 g_int (by rfl) X0.n_int (by first | boot_by_name | rfl | kernel_rfl) (s_cons (r_var 3) s_nil (by rfl)) (by decide) (by decide) (by rfl) (by rfl)) (r_var 1))))))))))
theorem s_law_pick : FnScope ["row", "kinds"] ["row", "kinds"] (defScope (top 14)) := ⟨rfl, rfl, rfl, by decide +kernel, rfl, by decide +kernel, by decide +kernel⟩
theorem ok_law_pick (X0 : Txt P K mg f_law_taken f_law_pick f_law_alike f_law_raised f_law fd_law_taken fd_law_pick fd_law_alike fd_law_raised fd_law C_CoinsError C_BadNumber C_BadName C_BadItem C_BadEvent C_BadNote C_TooMany C_Unknown C_Taken C_Refused C_NothingToUndo fI_BadNumber cda_BadNumber cc_BadNumber fI_BadName cda_BadName cc_BadName fI_BadItem cda_BadItem cc_BadItem fI_BadEvent cda_BadEvent cc_BadEvent fI_BadNote cda_BadNote cc_BadNote fI_TooMany cda_TooMany cc_TooMany fI_Unknown cda_Unknown cc_Unknown fI_Taken cda_Taken cc_Taken fI_Refused cda_Refused cc_Refused) : FnG P w K mg base (2) f_law_pick fd_law_pick ["row", "kinds"] (spM (tc K C_CoinsError C_BadNumber C_BadName C_BadItem C_BadEvent C_BadNote C_TooMany C_Unknown C_Taken C_Refused C_NothingToUndo) (m_law_pick) 2) := by
  have G_law_taken := ok_law_taken (w := w) (base := base) X0
  have sc := s_law_pick
  exact
      def_of (T := tc K C_CoinsError C_BadNumber C_BadName C_BadItem C_BadEvent C_BadNote C_TooMany C_Unknown C_Taken C_Refused C_NothingToUndo) (N := ["row", "kinds"]) (ps := ["row", "kinds"]) (k := 1) (m := b_law_pick) X0.F_law_pick sc fun cdv A outer s H E hr hgd =>
    (z_one (y_ret (r_ix (by rfl) (by have h := Mir.u1 hr; exact h) (r_var 1) (r_call G_law_taken (by exact hr.mono (by omega)) (by exact hgd) (by rfl) X0.g_law_taken X0.k_law_taken X0.b_law_taken (by exact takes_of rfl rfl rfl rfl) (s_cons (r_var 0) (s_cons (r_callB call_lenM g_len (by rfl) X0.n_len (by first | boot_by_name | rfl | kernel_rfl) (s_cons (r_var 1) s_nil (by rfl)) (by decide) (by decide) (by rfl) (by rfl)) s_nil (by rfl)) (by rfl)) (by decide) (by rfl) (by rfl)) (by exact fun _ _ => rfl))))
theorem s_law_alike : FnScope ["found", "due", "k"] ["found", "due"] (defScope (top 15)) := ⟨rfl, rfl, rfl, by decide +kernel, rfl, by decide +kernel, by decide +kernel⟩
theorem ok_law_alike (X0 : Txt P K mg f_law_taken f_law_pick f_law_alike f_law_raised f_law fd_law_taken fd_law_pick fd_law_alike fd_law_raised fd_law C_CoinsError C_BadNumber C_BadName C_BadItem C_BadEvent C_BadNote C_TooMany C_Unknown C_Taken C_Refused C_NothingToUndo fI_BadNumber cda_BadNumber cc_BadNumber fI_BadName cda_BadName cc_BadName fI_BadItem cda_BadItem cc_BadItem fI_BadEvent cda_BadEvent cc_BadEvent fI_BadNote cda_BadNote cc_BadNote fI_TooMany cda_TooMany cc_TooMany fI_Unknown cda_Unknown cc_Unknown fI_Taken cda_Taken cc_Taken fI_Refused cda_Refused cc_Refused) : ∀ n : Nat, FnG P w K mg base (1 + n) f_law_alike fd_law_alike ["found", "due"] (spM (tc K C_CoinsError C_BadNumber C_BadName C_BadItem C_BadEvent C_BadNote C_TooMany C_Unknown C_Taken C_Refused C_NothingToUndo) (m_law_alike n) 2)
  | 0 => FnG.none rfl
  | n + 1 => by
    have G0 := ok_law_alike X0 n
    have sc := s_law_alike
    exact
      def_of (T := tc K C_CoinsError C_BadNumber C_BadName C_BadItem C_BadEvent C_BadNote C_TooMany C_Unknown C_Taken C_Refused C_NothingToUndo) (N := ["found", "due", "k"]) (ps := ["found", "due"]) (k := 1 + n) (m := b_law_alike (m_law_alike n)) X0.F_law_alike sc fun cdv A outer s H E hr hgd =>
    (z_cons (y_if (q_val (r_isi2 (by rfl) (by rfl) X0.n_isinstance (by rfl) X0.n_tuple (by first | boot_by_name | rfl | kernel_rfl) (by rfl) X0.n_list (by first | boot_by_name | rfl | kernel_rfl) (r_var 1) (by decide) (by decide) (by decide) (by decide) (by rfl) (by rfl) (by rfl) (by rfl) (by rfl)) (by intro _; rfl)) (z_cons (y_if (PW.pt (q_or (q_not (q_val (r_isi2 (by rfl) (by rfl) X0.n_isinstance (by rfl) X0.n_tuple (by first | boot_by_name | rfl | kernel_rfl) (by rfl) X0.n_list (by first | boot_by_name | rfl | kernel_rfl) (r_var 0) (by decide) (by decide) (by decide) (by decide) (by rfl) (by rfl) (by rfl) (by rfl) (by rfl)) (by intro _; rfl))) (q_or1 (q_cmp (op_neD (by have h := Mir.u64 hr; exact h)) g_ne (r_isi (by rfl) (by rfl) X0.n_isinstance (by rfl) X0.n_list (by first | boot_by_name | rfl | kernel_rfl) (r_var 0) (by decide) (by decide) (by rfl) (by rfl) (by rfl)) (r_isi (by rfl) (by rfl) X0.n_isinstance (by rfl) X0.n_list (by first | boot_by_name | rfl | kernel_rfl) (r_var 1) (by decide) (by decide) (by rfl) (by rfl) (by rfl)) (by first | exact nomark _ | with_unfolding_all rfl))))) (z_one (y_ret r_bl)) z_nil)
    (z_cons (y_if (q_cmp (op_neD (by have h := Mir.u64 hr; exact h)) g_ne (r_callB call_lenM g_len (by rfl) X0.n_len (by first | boot_by_name | rfl | kernel_rfl) (s_cons (r_var 0) s_nil (by rfl)) (by decide) (by decide) (by rfl) (by rfl)) (r_callB call_lenM g_len (by rfl) X0.n_len (by first | boot_by_name | rfl | kernel_rfl) (s_cons (r_var 1) s_nil (by rfl)) (by decide) (by decide) (by rfl) (by rfl)) (by first | exact nomark _ | with_unfolding_all rfl)) (z_one (y_ret r_bl)) z_nil)
    (z_one (y_ret (r_cmp (op_eqD (by have h := Mir.u64 hr; exact h)) g_eq (r_fr (f_lc (own := [("k", 2)]) (by rfl) sc.nd (i_range1 (by rfl) X0.n_range (s_cons (r_callB call_lenM g_len (by rfl) X0.n_len (by first | boot_by_name | rfl | kernel_rfl) (s_cons (r_var 1) s_nil (by rfl)) (by decide) (by decide) (by rfl) (by rfl)) s_nil (by rfl)) (by rfl)) (blkOk_by (by first | rfl | kernel_rfl)) (fun _ _ _ _ _ => (tw_name (i := 2) (by decide) sc.nd (by rfl) (by first | exact Or.inl rfl | exact Or.inr rfl) (by first | exact .inl rfl | exact .inr rfl))) (fun _ _ _ _ _ => (w_one (q_not (q_val (r_call G0 (by exact hr.mono (by omega)) (by exact hgd) (by rfl) X0.g_law_alike X0.k_law_alike X0.b_law_alike takes0 (s_cons (r_ix (by rfl) (by have h := Mir.u1 hr; exact h) (r_var 0) (r_var 2) (by exact fun _ _ => rfl)) (s_cons (r_ix (by rfl) (by have h := Mir.u1 hr; exact h) (r_var 1) (r_var 2) (by exact fun _ _ => rfl)) s_nil (by rfl)) (by rfl)) (by decide) (by rfl) (by rfl)) (by intro _; rfl))))) (fun _ _ _ _ _ => (r_var 2)) (by intro _; rfl))) (r_lst s_nil) (by first | exact nomark _ | with_unfolding_all rfl)))))) z_nil)
    (z_cons (y_if (PW.pt (q_or (q_cmp op_isN g_isN (r_var 1) r_non (by first | exact nomark _ | with_unfolding_all rfl)) (q_or1 (q_val (r_isi (by rfl) (by rfl) X0.n_isinstance (by rfl) X0.n_str (by first | boot_by_name | rfl | kernel_rfl) (r_var 1) (by decide) (by decide) (by rfl) (by rfl) (by rfl)) (by intro _; rfl))))) (z_one (y_ret (r_and (r_cmp (op_eqD (by have h := Mir.u64 hr; exact h)) g_eq (r_var 0) (r_var 1) (by first | exact nomark _ | with_unfolding_all rfl)) (r_and1 (r_cmp (op_eqD (by have h := Mir.u64 hr; exact h)) g_eq (r_isi (by rfl) (by rfl) X0.n_isinstance (by rfl) X0.n_str (by first | boot_by_name | rfl | kernel_rfl) (r_var 0) (by decide) (by decide) (by rfl) (by rfl) (by rfl)) (r_isi (by rfl) (by rfl) X0.n_isinstance (by rfl) X0.n_str (by first | boot_by_name | rfl | kernel_rfl) (r_var 1) (by decide) (by decide) (by rfl) (by rfl) (by rfl)) (by first | exact nomark _ | with_unfolding_all rfl)))))) z_nil)
    (z_one (y_ret (r_and (r_isi (by rfl) (by rfl) X0.n_isinstance (by rfl) X0.n_int (by first | boot_by_name | rfl | kernel_rfl) (r_var 0) (by decide) (by decide) (by rfl) (by rfl) (by rfl)) (r_and (r_cmp (op_eqD (by have h := Mir.u64 hr; exact h)) g_eq (r_isi (by rfl) (by rfl) X0.n_isinstance (by rfl) X0.n_bool (by first | boot_by_name | rfl | kernel_rfl) (r_var 0) (by decide) (by decide) (by rfl) (by rfl) (by rfl)) (r_isi (by rfl) (by rfl) X0.n_isinstance (by rfl) X0.n_bool (by first | boot_by_name | rfl | kernel_rfl) (r_var 1) (by decide) (by decide) (by rfl) (by rfl) (by rfl)) (by first | exact nomark _ | with_unfolding_all rfl)) (r_and1 (r_cmp (op_eqD (by have h := Mir.u64 hr; exact h)) g_eq (r_var 0) (r_var 1) (by first | exact nomark _ | with_unfolding_all rfl)))))))))
theorem s_law_raised : FnScope ["number", "value", "named", "e", "kinds", "field"] ["number", "value", "named"] (defScope (top 16)) := ⟨rfl, rfl, rfl, by decide +kernel, rfl, by decide +kernel, by decide +kernel⟩
theorem ok_law_raised (X0 : Txt P K mg f_law_taken f_law_pick f_law_alike f_law_raised f_law fd_law_taken fd_law_pick fd_law_alike fd_law_raised fd_law C_CoinsError C_BadNumber C_BadName C_BadItem C_BadEvent C_BadNote C_TooMany C_Unknown C_Taken C_Refused C_NothingToUndo fI_BadNumber cda_BadNumber cc_BadNumber fI_BadName cda_BadName cc_BadName fI_BadItem cda_BadItem cc_BadItem fI_BadEvent cda_BadEvent cc_BadEvent fI_BadNote cda_BadNote cc_BadNote fI_TooMany cda_TooMany cc_TooMany fI_Unknown cda_Unknown cc_Unknown fI_Taken cda_Taken cc_Taken fI_Refused cda_Refused cc_Refused) : FnG P w K mg base (2) f_law_raised fd_law_raised ["number", "value", "named"] (spM (tc K C_CoinsError C_BadNumber C_BadName C_BadItem C_BadEvent C_BadNote C_TooMany C_Unknown C_Taken C_Refused C_NothingToUndo) (m_law_raised) 3) := by
  have sc := s_law_raised
  exact
      def_of (T := tc K C_CoinsError C_BadNumber C_BadName C_BadItem C_BadEvent C_BadNote C_TooMany C_Unknown C_Taken C_Refused C_NothingToUndo) (N := ["number", "value", "named", "e", "kinds", "field"]) (ps := ["number", "value", "named"]) (k := 1) (m := b_law_raised) X0.F_law_raised sc fun cdv A outer s H E hr hgd =>
    (z_one (y_tryAs (i := 3) (by rfl) (by rfl) (by rfl) sc.nd (by rfl) (by rfl) (by exact ⟨rfl, by decide, Or.inl X0.gc_CoinsError⟩) (by exact takes_of rfl rfl rfl rfl) X0.isa_CoinsError (fun W pn xe tk2 ps => (z_cons (y_if (q_cmp (op_eqD (by have h := Mir.u64 hr; exact h)) g_eq (r_var 0) r_int (by first | exact nomark _ | with_unfolding_all rfl)) (z_one (y_raise (by rfl) tk2 (k_fld c_BadNumber (pmk_err1 X0.e_BadNumber X0.i_BadNumber (by decide) ba_BadNumber sc_BadNumber X0.o_BadNumber_value (by exact hr) (by rfl) X0.gc_BadNumber (s_cons (r_var 1) s_nil (by rfl)))))) z_nil)
    (z_cons (y_if (q_cmp (op_eqD (by have h := Mir.u64 hr; exact h)) g_eq (r_var 0) r_int (by first | exact nomark _ | with_unfolding_all rfl)) (z_one (y_raise (by rfl) tk2 (k_fld c_BadName (pmk_err1 X0.e_BadName X0.i_BadName (by decide) ba_BadName sc_BadName X0.o_BadName_value (by exact hr) (by rfl) X0.gc_BadName (s_cons (r_var 1) s_nil (by rfl)))))) z_nil)
    (z_cons (y_if (q_cmp (op_eqD (by have h := Mir.u64 hr; exact h)) g_eq (r_var 0) r_int (by first | exact nomark _ | with_unfolding_all rfl)) (z_one (y_raise (by rfl) tk2 (k_fld c_BadItem (pmk_err1 X0.e_BadItem X0.i_BadItem (by decide) ba_BadItem sc_BadItem X0.o_BadItem_index (by exact hr) (by rfl) X0.gc_BadItem (s_cons (r_var 1) s_nil (by rfl)))))) z_nil)
    (z_cons (y_if (q_cmp (op_eqD (by have h := Mir.u64 hr; exact h)) g_eq (r_var 0) r_int (by first | exact nomark _ | with_unfolding_all rfl)) (z_one (y_raise (by rfl) tk2 (k_fld c_BadEvent (pmk_err1 X0.e_BadEvent X0.i_BadEvent (by decide) ba_BadEvent sc_BadEvent X0.o_BadEvent_value (by exact hr) (by rfl) X0.gc_BadEvent (s_cons (r_var 1) s_nil (by rfl)))))) z_nil)
    (z_cons (y_if (q_cmp (op_eqD (by have h := Mir.u64 hr; exact h)) g_eq (r_var 0) r_int (by first | exact nomark _ | with_unfolding_all rfl)) (z_one (y_raise (by rfl) tk2 (k_fld c_BadNote (pmk_err1 X0.e_BadNote X0.i_BadNote (by decide) ba_BadNote sc_BadNote X0.o_BadNote_line (by exact hr) (by rfl) X0.gc_BadNote (s_cons (r_var 1) s_nil (by rfl)))))) z_nil)
    (z_cons (y_if (q_cmp (op_eqD (by have h := Mir.u64 hr; exact h)) g_eq (r_var 0) r_int (by first | exact nomark _ | with_unfolding_all rfl)) (z_one (y_raise (by rfl) tk2 (k_fld c_TooMany (pmk_err1 X0.e_TooMany X0.i_TooMany (by decide) ba_TooMany sc_TooMany X0.o_TooMany_limit (by exact hr) (by rfl) X0.gc_TooMany (s_cons (r_var 1) s_nil (by rfl)))))) z_nil)
    (z_cons (y_if (q_cmp (op_eqD (by have h := Mir.u64 hr; exact h)) g_eq (r_var 0) r_int (by first | exact nomark _ | with_unfolding_all rfl)) (z_one (y_raise (by rfl) tk2 (k_fld c_Unknown (pmk_err1 X0.e_Unknown X0.i_Unknown (by decide) ba_Unknown sc_Unknown X0.o_Unknown_value (by exact hr) (by rfl) X0.gc_Unknown (s_cons (r_var 1) s_nil (by rfl)))))) z_nil)
    (z_cons (y_if (q_cmp (op_eqD (by have h := Mir.u64 hr; exact h)) g_eq (r_var 0) r_int (by first | exact nomark _ | with_unfolding_all rfl)) (z_one (y_raise (by rfl) tk2 (k_fld c_Taken (pmk_err1 X0.e_Taken X0.i_Taken (by decide) ba_Taken sc_Taken X0.o_Taken_value (by exact hr) (by rfl) X0.gc_Taken (s_cons (r_var 1) s_nil (by rfl)))))) z_nil)
    (z_cons (y_if (q_cmp (op_eqD (by have h := Mir.u64 hr; exact h)) g_eq (r_var 0) r_int (by first | exact nomark _ | with_unfolding_all rfl)) (z_one (y_raise (by rfl) tk2 (k_fld c_Refused (pmk_err2 X0.e_Refused X0.i_Refused (by decide) (by decide) (by decide) ba_Refused sc_Refused X0.o_Refused_reason X0.o_Refused_names (by exact hr) (by rfl) X0.gc_Refused (s_cons (r_var 1) (s_cons (r_var 2) s_nil (by rfl)) (by rfl)))))) z_nil)
    (z_one (y_raise (by rfl) tk2 (k_0 c_NothingToUndo (pmk_own0 PySem.F.excBase_ValueError X0.z_NothingToUndo X0.gc_NothingToUndo X0.kc_NothingToUndo (raises_own X0.ex_NothingToUndo X0.ty_NothingToUndo) (by rfl) (by decide) (by rfl))))))))))))))) (fun a oe cls d pn hz hf => (z_cons (y_set (i := 4) sc.nd (by rfl) (by first | exact Or.inl rfl | exact Or.inr rfl) (r_lst (s_cons (r_isX (i := 3) (v := .ref C_BadNumber) (by rfl) X0.n_isinstance X0.ik_BadNumber (fun u h => h) hz hf (by rfl) (by exact Or.inl rfl) (pe_glob (v := .ref _) (by rfl) X0.gc_BadNumber rfl) (by decide) (by decide) (by rfl) (by rfl) (by rfl)) (s_cons (r_isX (i := 3) (v := .ref C_BadName) (by rfl) X0.n_isinstance X0.ik_BadName (fun u h => h) hz hf (by rfl) (by exact Or.inl rfl) (pe_glob (v := .ref _) (by rfl) X0.gc_BadName rfl) (by decide) (by decide) (by rfl) (by rfl) (by rfl)) (s_cons (r_isX (i := 3) (v := .ref C_BadItem) (by rfl) X0.n_isinstance X0.ik_BadItem (fun u h => h) hz hf (by rfl) (by exact Or.inl rfl) (pe_glob (v := .ref _) (by rfl) X0.gc_BadItem rfl) (by decide) (by decide) (by rfl) (by rfl) (by rfl)) (s_cons (r_isX (i := 3) (v := .ref C_BadEvent) (by rfl) X0.n_isinstance X0.ik_BadEvent (fun u h => h) hz hf (by rfl) (by exact Or.inl rfl) (pe_glob (v := .ref _) (by rfl) X0.gc_BadEvent rfl) (by decide) (by decide) (by rfl) (by rfl) (by rfl)) (s_cons (r_isX (i := 3) (v := .ref C_BadNote) (by rfl) X0.n_isinstance X0.ik_BadNote (fun u h => h) hz hf (by rfl) (by exact Or.inl rfl) (pe_glob (v := .ref _) (by rfl) X0.gc_BadNote rfl) (by decide) (by decide) (by rfl) (by rfl) (by rfl)) s_nil (by rfl)) (by rfl)) (by rfl)) (by rfl)) (by rfl))) (by rfl) (by first | exact .inl rfl | exact .inr rfl))
    (z_cons (y_set (i := 4) sc.nd (by rfl) (by first | exact Or.inl rfl | exact Or.inr rfl) (r_bin op_addM g_add (r_var 4) (r_lst (s_cons (r_isX (i := 3) (v := .ref C_TooMany) (by rfl) X0.n_isinstance X0.ik_TooMany (fun u h => h) hz hf (by rfl) (by exact Or.inl rfl) (pe_glob (v := .ref _) (by rfl) X0.gc_TooMany rfl) (by decide) (by decide) (by rfl) (by rfl) (by rfl)) (s_cons (r_isX (i := 3) (v := .ref C_Unknown) (by rfl) X0.n_isinstance X0.ik_Unknown (fun u h => h) hz hf (by rfl) (by exact Or.inl rfl) (pe_glob (v := .ref _) (by rfl) X0.gc_Unknown rfl) (by decide) (by decide) (by rfl) (by rfl) (by rfl)) (s_cons (r_isX (i := 3) (v := .ref C_Taken) (by rfl) X0.n_isinstance X0.ik_Taken (fun u h => h) hz hf (by rfl) (by exact Or.inl rfl) (pe_glob (v := .ref _) (by rfl) X0.gc_Taken rfl) (by decide) (by decide) (by rfl) (by rfl) (by rfl)) (s_cons (r_isX (i := 3) (v := .ref C_Refused) (by rfl) X0.n_isinstance X0.ik_Refused (fun u h => h) hz hf (by rfl) (by exact Or.inl rfl) (pe_glob (v := .ref _) (by rfl) X0.gc_Refused rfl) (by decide) (by decide) (by rfl) (by rfl) (by rfl)) (s_cons (r_isX (i := 3) (v := .ref C_NothingToUndo) (by rfl) X0.n_isinstance X0.ik_NothingToUndo (fun u h => h) hz hf (by rfl) (by exact Or.inl rfl) (pe_glob (v := .ref _) (by rfl) X0.gc_NothingToUndo rfl) (by decide) (by decide) (by rfl) (by rfl) (by rfl)) s_nil (by rfl)) (by rfl)) (by rfl)) (by rfl)) (by rfl)))) (by rfl) (by first | exact .inl rfl | exact .inr rfl))
    (z_cons (y_if (PW.pt (q_or (q_not (q_val (r_isX (i := 3) (v := .ty "ValueError") (by rfl) X0.n_isinstance X0.ik_ValueError (fun u h => h) hz hf (by rfl) (by exact Or.inl rfl) (pe_bltn (v := .ty "ValueError") (by rfl) X0.n_ValueError (by first | boot_by_name | rfl | kernel_rfl) rfl) (by decide) (by decide) (by rfl) (by rfl) (by rfl)) (by intro _; rfl))) (q_or (q_val (r_isX (i := 3) (v := .ty "LookupError") (by rfl) X0.n_isinstance X0.ik_LookupError (fun u h => h) hz hf (by rfl) (by exact Or.inl rfl) (pe_bltn (v := .ty "LookupError") (by rfl) X0.n_LookupError (by first | boot_by_name | rfl | kernel_rfl) rfl) (by decide) (by decide) (by rfl) (by rfl) (by rfl)) (by intro _; rfl)) (q_or1 (q_val (r_isX (i := 3) (v := .ty "RuntimeError") (by rfl) X0.n_isinstance X0.ik_RuntimeError (fun u h => h) hz hf (by rfl) (by exact Or.inl rfl) (pe_bltn (v := .ty "RuntimeError") (by rfl) X0.n_RuntimeError (by first | boot_by_name | rfl | kernel_rfl) rfl) (by decide) (by decide) (by rfl) (by rfl) (by rfl)) (by intro _; rfl)))))) (z_one (y_ret r_non)) z_nil)
    (z_cons (y_set (i := 5) sc.nd (by rfl) (by first | exact Or.inl rfl | exact Or.inr rfl) r_non (by rfl) (by first | exact .inl rfl | exact .inr rfl))
    (z_cons (y_if (q_cmp (op_inM (by have h := Mir.u65 hr; exact h)) g_in (r_var 0) (r_lst (s_cons r_int (s_cons r_int (s_cons r_int (s_cons r_int (s_cons r_int s_nil (by rfl)) (by rfl)) (by rfl)) (by rfl)) (by rfl))) (by first | exact nomark _ | with_unfolding_all rfl)) (z_one (y_set (i := 5) sc.nd (by rfl) (by first | exact Or.inl rfl | exact Or.inr rfl) (r_xfs (i := 3) X0.xf_value hz hf (by rfl) (by exact Or.inl rfl)) (by rfl) (by first | exact .inl rfl | exact .inr rfl))) z_nil)
    (z_cons (y_if (q_cmp (op_eqD (by have h := Mir.u64 hr; exact h)) g_eq (r_var 0) r_int (by first | exact nomark _ | with_unfolding_all rfl)) (z_one (y_set (i := 5) sc.nd (by rfl) (by first | exact Or.inl rfl | exact Or.inr rfl) (r_xfs (i := 3) X0.xf_index hz hf (by rfl) (by exact Or.inl rfl)) (by rfl) (by first | exact .inl rfl | exact .inr rfl))) z_nil)
    (z_cons (y_if (q_cmp (op_eqD (by have h := Mir.u64 hr; exact h)) g_eq (r_var 0) r_int (by first | exact nomark _ | with_unfolding_all rfl)) (z_one (y_set (i := 5) sc.nd (by rfl) (by first | exact Or.inl rfl | exact Or.inr rfl) (r_xfs (i := 3) X0.xf_line hz hf (by rfl) (by exact Or.inl rfl)) (by rfl) (by first | exact .inl rfl | exact .inr rfl))) z_nil)
    (z_cons (y_if (q_cmp (op_eqD (by have h := Mir.u64 hr; exact h)) g_eq (r_var 0) r_int (by first | exact nomark _ | with_unfolding_all rfl)) (z_one (y_set (i := 5) sc.nd (by rfl) (by first | exact Or.inl rfl | exact Or.inr rfl) (r_xfs (i := 3) X0.xf_limit hz hf (by rfl) (by exact Or.inl rfl)) (by rfl) (by first | exact .inl rfl | exact .inr rfl))) z_nil)
    (z_cons (y_if (q_cmp (op_eqD (by have h := Mir.u64 hr; exact h)) g_eq (r_var 0) r_int (by first | exact nomark _ | with_unfolding_all rfl)) (z_one (y_set (i := 5) sc.nd (by rfl) (by first | exact Or.inl rfl | exact Or.inr rfl) (r_tup (s_cons (r_xfs (i := 3) X0.xf_reason hz hf (by rfl) (by exact Or.inl rfl)) (s_cons (r_xfs (i := 3) X0.xf_names hz hf (by rfl) (by exact Or.inl rfl)) s_nil (by rfl)) (by rfl))) (by rfl) (by first | exact .inl rfl | exact .inr rfl))) z_nil)
    (z_one (y_ret (r_tup (s_cons (r_var 4) (s_cons (r_var 5) s_nil (by rfl)) (by rfl)))))))))))))))))
theorem s_law : FnScope ["script", "row", "number", "value", "named", "told", "due", "made", "k"] ["script"] (defScope (top 17)) := ⟨rfl, rfl, rfl, by decide +kernel, rfl, by decide +kernel, by decide +kernel⟩
theorem ok_law (X0 : Txt P K mg f_law_taken f_law_pick f_law_alike f_law_raised f_law fd_law_taken fd_law_pick fd_law_alike fd_law_raised fd_law C_CoinsError C_BadNumber C_BadName C_BadItem C_BadEvent C_BadNote C_TooMany C_Unknown C_Taken C_Refused C_NothingToUndo fI_BadNumber cda_BadNumber cc_BadNumber fI_BadName cda_BadName cc_BadName fI_BadItem cda_BadItem cc_BadItem fI_BadEvent cda_BadEvent cc_BadEvent fI_BadNote cda_BadNote cc_BadNote fI_TooMany cda_TooMany cc_TooMany fI_Unknown cda_Unknown cc_Unknown fI_Taken cda_Taken cc_Taken fI_Refused cda_Refused cc_Refused) : FnG P w K mg base (32) f_law fd_law ["script"] (spM (tc K C_CoinsError C_BadNumber C_BadName C_BadItem C_BadEvent C_BadNote C_TooMany C_Unknown C_Taken C_Refused C_NothingToUndo) (m_law) 1) := by
  have G_law_alike := ok_law_alike (w := w) (base := base) X0 30
  have G_law_pick := ok_law_pick (w := w) (base := base) X0
  have G_law_raised := ok_law_raised (w := w) (base := base) X0
  have G_law_taken := ok_law_taken (w := w) (base := base) X0
  have sc := s_law
  exact
      def_of (T := tc K C_CoinsError C_BadNumber C_BadName C_BadItem C_BadEvent C_BadNote C_TooMany C_Unknown C_Taken C_Refused C_NothingToUndo) (N := ["script", "row", "number", "value", "named", "told", "due", "made", "k"]) (ps := ["script"]) (k := 31) (m := b_law) X0.F_law sc fun cdv A outer s H E hr hgd =>
    (z_cons (y_set (i := 1) sc.nd (by rfl) (by first | exact Or.inl rfl | exact Or.inr rfl) (r_cel (f_lst (s_cons (r_var 0) (s_cons r_int (s_cons r_int (s_cons r_int s_nil (by rfl)) (by rfl)) (by rfl)) (by rfl)))) (by rfl) (by first | exact .inl rfl | exact .inr rfl))
    (z_cons (y_for (by exact passes_of rfl) (by rfl) (i_range1 (by rfl) X0.n_range (s_cons r_int s_nil (by rfl)) (by rfl)) (t_name (i := 2) sc.nd (by rfl) (by first | exact Or.inl rfl | exact Or.inr rfl) (by first | exact .inl rfl | exact .inr rfl)) (z_cons (y_set (i := 3) sc.nd (by rfl) (by first | exact Or.inl rfl | exact Or.inr rfl) (r_call G_law_pick (by exact hr.mono (by omega)) (by exact hgd) (by rfl) X0.g_law_pick X0.k_law_pick X0.b_law_pick (by exact takes_of rfl rfl rfl rfl) (s_cons (r_var 1) (s_cons (r_lst (s_cons r_non (s_cons r_int (s_cons r_str (s_cons (r_tup (s_cons r_int (s_cons r_int s_nil (by rfl)) (by rfl))) (s_cons r_bl (s_cons (r_call G_law_taken (by exact hr.mono (by omega)) (by exact hgd) (by rfl) X0.g_law_taken X0.k_law_taken X0.b_law_taken (by exact takes_of rfl rfl rfl rfl) (s_cons (r_var 1) (s_cons (r_bin op_pow g_pow r_int r_int) s_nil (by rfl)) (by rfl)) (by decide) (by rfl) (by rfl)) s_nil (by rfl)) (by rfl)) (by rfl)) (by rfl)) (by rfl)) (by rfl))) s_nil (by rfl)) (by rfl)) (by decide) (by rfl) (by rfl)) (by rfl) (by first | exact .inl rfl | exact .inr rfl))
    (z_cons (y_set (i := 4) sc.nd (by rfl) (by first | exact Or.inl rfl | exact Or.inr rfl) (r_call G_law_pick (by exact hr.mono (by omega)) (by exact hgd) (by rfl) X0.g_law_pick X0.k_law_pick X0.b_law_pick (by exact takes_of rfl rfl rfl rfl) (s_cons (r_var 1) (s_cons (r_lst (s_cons (r_tup s_nil) (s_cons (r_tup (s_cons r_str s_nil (by rfl))) s_nil (by rfl)) (by rfl))) s_nil (by rfl)) (by rfl)) (by decide) (by rfl) (by rfl)) (by rfl) (by first | exact .inl rfl | exact .inr rfl))
    (z_cons (y_set (i := 5) sc.nd (by rfl) (by first | exact Or.inl rfl | exact Or.inr rfl) (r_call G_law_raised (by exact hr.mono (by omega)) (by exact hgd) (by rfl) X0.g_law_raised X0.k_law_raised X0.b_law_raised (by exact takes_of rfl rfl rfl rfl) (s_cons (r_var 2) (s_cons (r_var 3) (s_cons (r_var 4) s_nil (by rfl)) (by rfl)) (by rfl)) (by decide) (by rfl) (by rfl)) (by rfl) (by first | exact .inl rfl | exact .inr rfl))
    (z_cons (y_if (PW.pt (q_or (q_cmp op_isN g_isN (r_var 5) r_non (by first | exact nomark _ | with_unfolding_all rfl)) (q_or1 (q_cmp (op_neD (by have h := Mir.u64 hr; exact h)) g_ne (r_ix (by rfl) (by have h := Mir.u1 hr; exact h) (r_var 5) r_int (by exact fun _ _ => rfl)) (r_fr (f_lc (own := [("k", 8)]) (by rfl) sc.nd (i_range1 (by rfl) X0.n_range (s_cons r_int s_nil (by rfl)) (by rfl)) (blkOk_by (by first | rfl | kernel_rfl)) (fun _ _ _ _ _ => (tw_name (i := 8) (by decide) sc.nd (by rfl) (by first | exact Or.inl rfl | exact Or.inr rfl) (by first | exact .inl rfl | exact .inr rfl))) (fun _ _ _ _ _ => w_nil) (fun _ _ _ _ _ => (r_cmp (op_eqD (by have h := Mir.u64 hr; exact h)) g_eq (r_var 8) (r_var 2) (by first | exact nomark _ | with_unfolding_all rfl))) (by intro _; rfl))) (by first | exact nomark _ | with_unfolding_all rfl))))) (z_one (y_ret r_bl)) z_nil)
    (z_cons (y_set (i := 6) sc.nd (by rfl) (by first | exact Or.inl rfl | exact Or.inr rfl) (r_var 3) (by rfl) (by first | exact .inl rfl | exact .inr rfl))
    (z_cons (y_if (q_cmp (op_eqD (by have h := Mir.u64 hr; exact h)) g_eq (r_var 2) r_int (by first | exact nomark _ | with_unfolding_all rfl)) (z_one (y_set (i := 6) sc.nd (by rfl) (by first | exact Or.inl rfl | exact Or.inr rfl) (r_tup (s_cons (r_var 3) (s_cons (r_var 4) s_nil (by rfl)) (by rfl))) (by rfl) (by first | exact .inl rfl | exact .inr rfl))) z_nil)
    (z_one (y_if (PW.pt (q_and (q_cmp op_lt g_lt (r_var 2) r_int (by first | exact nomark _ | with_unfolding_all rfl)) (q_and1 (PW.pt (q_or (q_cmp (op_neD (by have h := Mir.u64 hr; exact h)) g_ne (r_ix (by rfl) (by have h := Mir.u1 hr; exact h) (r_var 5) r_int (by exact fun _ _ => rfl)) (r_var 6) (by first | exact nomark _ | with_unfolding_all rfl)) (q_or1 (q_cmp (op_neD (by have h := Mir.u64 hr; exact h)) g_ne (r_isi (by rfl) (by rfl) X0.n_isinstance (by rfl) X0.n_bool (by first | boot_by_name | rfl | kernel_rfl) (r_ix (by rfl) (by have h := Mir.u1 hr; exact h) (r_var 5) r_int (by exact fun _ _ => rfl)) (by decide) (by decide) (by rfl) (by rfl) (by rfl)) (r_isi (by rfl) (by rfl) X0.n_isinstance (by rfl) X0.n_bool (by first | boot_by_name | rfl | kernel_rfl) (r_var 6) (by decide) (by decide) (by rfl) (by rfl) (by rfl)) (by first | exact nomark _ | with_unfolding_all rfl)))))))) (z_one (y_ret r_bl)) z_nil)))))))) (by intro _; rfl))
    (z_cons (y_set (i := 7) sc.nd (by rfl) (by first | exact Or.inl rfl | exact Or.inr rfl) (r_lst (s_cons (r_kwf (pe_kwf X0.e_BadNumber X0.x_BadNumber (kw_made1 X0.e_BadNumber X0.i_BadNumber (by decide) bk_BadNumber sc_BadNumber X0.o_BadNumber_value) (by decide) X0.o_BadNumber_value (by exact hr) (by rfl) X0.gc_BadNumber (kw_cons r_int kw_nil) (by rfl) (by rfl) (by decide) (by rfl) (by rfl))) (s_cons (r_kwf (pe_kwf X0.e_BadName X0.x_BadName (kw_made1 X0.e_BadName X0.i_BadName (by decide) bk_BadName sc_BadName X0.o_BadName_value) (by decide) X0.o_BadName_value (by exact hr) (by rfl) X0.gc_BadName (kw_cons r_str kw_nil) (by rfl) (by rfl) (by decide) (by rfl) (by rfl))) (s_cons (r_kwf (pe_kwf X0.e_BadItem X0.x_BadItem (kw_made1 X0.e_BadItem X0.i_BadItem (by decide) bk_BadItem sc_BadItem X0.o_BadItem_index) (by decide) X0.o_BadItem_index (by exact hr) (by rfl) X0.gc_BadItem (kw_cons r_int kw_nil) (by rfl) (by rfl) (by decide) (by rfl) (by rfl))) (s_cons (r_kwf (pe_kwf X0.e_BadEvent X0.x_BadEvent (kw_made1 X0.e_BadEvent X0.i_BadEvent (by decide) bk_BadEvent sc_BadEvent X0.o_BadEvent_value) (by decide) X0.o_BadEvent_value (by exact hr) (by rfl) X0.gc_BadEvent (kw_cons r_int kw_nil) (by rfl) (by rfl) (by decide) (by rfl) (by rfl))) (s_cons (r_kwf (pe_kwf X0.e_BadNote X0.x_BadNote (kw_made1 X0.e_BadNote X0.i_BadNote (by decide) bk_BadNote sc_BadNote X0.o_BadNote_line) (by decide) X0.o_BadNote_line (by exact hr) (by rfl) X0.gc_BadNote (kw_cons r_int kw_nil) (by rfl) (by rfl) (by decide) (by rfl) (by rfl))) s_nil (by rfl)) (by rfl)) (by rfl)) (by rfl)) (by rfl))) (by rfl) (by first | exact .inl rfl | exact .inr rfl))
    (z_cons (y_set (i := 7) sc.nd (by rfl) (by first | exact Or.inl rfl | exact Or.inr rfl) (r_bin op_addM g_add (r_var 7) (r_lst (s_cons (r_kwf (pe_kwf X0.e_TooMany X0.x_TooMany (kw_made1 X0.e_TooMany X0.i_TooMany (by decide) bk_TooMany sc_TooMany X0.o_TooMany_limit) (by decide) X0.o_TooMany_limit (by exact hr) (by rfl) X0.gc_TooMany (kw_cons r_int kw_nil) (by rfl) (by rfl) (by decide) (by rfl) (by rfl))) (s_cons (r_kwf (pe_kwf X0.e_Unknown X0.x_Unknown (kw_made1 X0.e_Unknown X0.i_Unknown (by decide) bk_Unknown sc_Unknown X0.o_Unknown_value) (by decide) X0.o_Unknown_value (by exact hr) (by rfl) X0.gc_Unknown (kw_cons r_int kw_nil) (by rfl) (by rfl) (by decide) (by rfl) (by rfl))) (s_cons (r_kwf (pe_kwf X0.e_Taken X0.x_Taken (kw_made1 X0.e_Taken X0.i_Taken (by decide) bk_Taken sc_Taken X0.o_Taken_value) (by decide) X0.o_Taken_value (by exact hr) (by rfl) X0.gc_Taken (kw_cons r_int kw_nil) (by rfl) (by rfl) (by decide) (by rfl) (by rfl))) (s_cons (r_kwf (pe_kwf X0.e_Refused X0.x_Refused (kw_made2 X0.e_Refused X0.i_Refused (by decide) (by decide) (by decide) (.inl rfl) bk_Refused bl_Refused sc_Refused X0.o_Refused_reason X0.o_Refused_names) (by decide) X0.o_Refused_names (by exact hr) (by rfl) X0.gc_Refused (kw_cons r_str (kw_cons r_int kw_nil)) (by rfl) (by rfl) (by decide) (by rfl) (by rfl))) (s_cons (r_kwf (pe_kwf X0.e_Refused X0.x_Refused (kw_made2 X0.e_Refused X0.i_Refused (by decide) (by decide) (by decide) (.inr rfl) bk_Refused bl_Refused sc_Refused X0.o_Refused_reason X0.o_Refused_names) (by decide) X0.o_Refused_reason (by exact hr) (by rfl) X0.gc_Refused (kw_cons r_int (kw_cons r_str kw_nil)) (by rfl) (by rfl) (by decide) (by rfl) (by rfl))) s_nil (by rfl)) (by rfl)) (by rfl)) (by rfl)) (by rfl)))) (by rfl) (by first | exact .inl rfl | exact .inr rfl))
    (z_one (y_ret (r_call G_law_alike (by exact hr.mono (by omega)) (by exact hgd) (by rfl) X0.g_law_alike X0.k_law_alike X0.b_law_alike (by exact takes_of rfl rfl rfl rfl) (s_cons (r_var 7) (s_cons (r_lst (s_cons r_int (s_cons r_str (s_cons r_int (s_cons r_int (s_cons r_int (s_cons r_int (s_cons r_int (s_cons r_int (s_cons r_int (s_cons r_str s_nil (by rfl)) (by rfl)) (by rfl)) (by rfl)) (by rfl)) (by rfl)) (by rfl)) (by rfl)) (by rfl)) (by rfl))) s_nil (by rfl)) (by rfl)) (by decide) (by rfl) (by rfl))))))))
end
theorem all_mk {P : Program} {w : World} {K : PySem.W.Frag} {h : Heap} {mg : Str → Option Value} {fa f_law_taken f_law_pick f_law_alike f_law_raised f_law : Addr} {C_CoinsError C_BadNumber C_BadName C_BadItem C_BadEvent C_BadNote C_TooMany C_Unknown C_Taken C_Refused C_NothingToUndo fI_BadNumber cda_BadNumber cc_BadNumber fI_BadName cda_BadName cc_BadName fI_BadItem cda_BadItem cc_BadItem fI_BadEvent cda_BadEvent cc_BadEvent fI_BadNote cda_BadNote cc_BadNote fI_TooMany cda_TooMany cc_TooMany fI_Unknown cda_Unknown cc_Unknown fI_Taken cda_Taken cc_Taken fI_Refused cda_Refused cc_Refused : Addr} (X : K.In h) (G : h.Ns mainGlobals mg) (hfa : mg "law" = some (.ref fa))
    {od_law_taken an_law_taken : Option Addr} {sl_law_taken : Array (Option Value)} {oc_law_taken kV_law_taken dc_law_taken pm_law_taken cd_law_taken ct_law_taken : Value}
    {od_law_pick an_law_pick : Option Addr} {sl_law_pick : Array (Option Value)} {oc_law_pick kV_law_pick dc_law_pick pm_law_pick cd_law_pick ct_law_pick : Value}
    {od_law_alike an_law_alike : Option Addr} {sl_law_alike : Array (Option Value)} {oc_law_alike kV_law_alike dc_law_alike pm_law_alike cd_law_alike ct_law_alike : Value}
    {od_law_raised an_law_raised : Option Addr} {sl_law_raised : Array (Option Value)} {oc_law_raised kV_law_raised dc_law_raised pm_law_raised cd_law_raised ct_law_raised : Value}
    {od_law an_law : Option Addr} {sl_law : Array (Option Value)} {oc_law kV_law dc_law pm_law cd_law ct_law : Value}
    {nm_BadNumber q_BadNumber : Str} {N_BadNumber : Addr} {bs_BadNumber : List Value} {sn_BadNumber : List Str} {sub_BadNumber : List Value} {ab_BadNumber : Bool} {col_BadNumber : Option Bool} {dd_BadNumber : Option Addr} {m0_BadNumber m1_BadNumber m2_BadNumber m3_BadNumber m5_BadNumber : Option Value}
    {oi_BadNumber : Value} {odi_BadNumber ani_BadNumber : Option Addr} {sli_BadNumber : Array (Option Value)} {kVi_BadNumber dci_BadNumber pmi_BadNumber cti_BadNumber : Value}
    {ccl_BadNumber : Value} {cdd_BadNumber : Option Addr} {cvs_BadNumber : Array Value} {ccs_BadNumber : Array (Option Value)} {file_BadNumber : Str} {tf_BadNumber : Tok} {cel_BadNumber : Value} {ceo_BadNumber : Option Addr} {ces_BadNumber : Array (Option Value)}
    {nm_BadName q_BadName : Str} {N_BadName : Addr} {bs_BadName : List Value} {sn_BadName : List Str} {sub_BadName : List Value} {ab_BadName : Bool} {col_BadName : Option Bool} {dd_BadName : Option Addr} {m0_BadName m1_BadName m2_BadName m3_BadName m5_BadName : Option Value}
    {oi_BadName : Value} {odi_BadName ani_BadName : Option Addr} {sli_BadName : Array (Option Value)} {kVi_BadName dci_BadName pmi_BadName cti_BadName : Value}
    {ccl_BadName : Value} {cdd_BadName : Option Addr} {cvs_BadName : Array Value} {ccs_BadName : Array (Option Value)} {file_BadName : Str} {tf_BadName : Tok} {cel_BadName : Value} {ceo_BadName : Option Addr} {ces_BadName : Array (Option Value)}
    {nm_BadItem q_BadItem : Str} {N_BadItem : Addr} {bs_BadItem : List Value} {sn_BadItem : List Str} {sub_BadItem : List Value} {ab_BadItem : Bool} {col_BadItem : Option Bool} {dd_BadItem : Option Addr} {m0_BadItem m1_BadItem m2_BadItem m3_BadItem m5_BadItem : Option Value}
    {oi_BadItem : Value} {odi_BadItem ani_BadItem : Option Addr} {sli_BadItem : Array (Option Value)} {kVi_BadItem dci_BadItem pmi_BadItem cti_BadItem : Value}
    {ccl_BadItem : Value} {cdd_BadItem : Option Addr} {cvs_BadItem : Array Value} {ccs_BadItem : Array (Option Value)} {file_BadItem : Str} {tf_BadItem : Tok} {cel_BadItem : Value} {ceo_BadItem : Option Addr} {ces_BadItem : Array (Option Value)}
    {nm_BadEvent q_BadEvent : Str} {N_BadEvent : Addr} {bs_BadEvent : List Value} {sn_BadEvent : List Str} {sub_BadEvent : List Value} {ab_BadEvent : Bool} {col_BadEvent : Option Bool} {dd_BadEvent : Option Addr} {m0_BadEvent m1_BadEvent m2_BadEvent m3_BadEvent m5_BadEvent : Option Value}
    {oi_BadEvent : Value} {odi_BadEvent ani_BadEvent : Option Addr} {sli_BadEvent : Array (Option Value)} {kVi_BadEvent dci_BadEvent pmi_BadEvent cti_BadEvent : Value}
    {ccl_BadEvent : Value} {cdd_BadEvent : Option Addr} {cvs_BadEvent : Array Value} {ccs_BadEvent : Array (Option Value)} {file_BadEvent : Str} {tf_BadEvent : Tok} {cel_BadEvent : Value} {ceo_BadEvent : Option Addr} {ces_BadEvent : Array (Option Value)}
    {nm_BadNote q_BadNote : Str} {N_BadNote : Addr} {bs_BadNote : List Value} {sn_BadNote : List Str} {sub_BadNote : List Value} {ab_BadNote : Bool} {col_BadNote : Option Bool} {dd_BadNote : Option Addr} {m0_BadNote m1_BadNote m2_BadNote m3_BadNote m5_BadNote : Option Value}
    {oi_BadNote : Value} {odi_BadNote ani_BadNote : Option Addr} {sli_BadNote : Array (Option Value)} {kVi_BadNote dci_BadNote pmi_BadNote cti_BadNote : Value}
    {ccl_BadNote : Value} {cdd_BadNote : Option Addr} {cvs_BadNote : Array Value} {ccs_BadNote : Array (Option Value)} {file_BadNote : Str} {tf_BadNote : Tok} {cel_BadNote : Value} {ceo_BadNote : Option Addr} {ces_BadNote : Array (Option Value)}
    {nm_TooMany q_TooMany : Str} {N_TooMany : Addr} {bs_TooMany : List Value} {sn_TooMany : List Str} {sub_TooMany : List Value} {ab_TooMany : Bool} {col_TooMany : Option Bool} {dd_TooMany : Option Addr} {m0_TooMany m1_TooMany m2_TooMany m3_TooMany m5_TooMany : Option Value}
    {oi_TooMany : Value} {odi_TooMany ani_TooMany : Option Addr} {sli_TooMany : Array (Option Value)} {kVi_TooMany dci_TooMany pmi_TooMany cti_TooMany : Value}
    {ccl_TooMany : Value} {cdd_TooMany : Option Addr} {cvs_TooMany : Array Value} {ccs_TooMany : Array (Option Value)} {file_TooMany : Str} {tf_TooMany : Tok} {cel_TooMany : Value} {ceo_TooMany : Option Addr} {ces_TooMany : Array (Option Value)}
    {nm_Unknown q_Unknown : Str} {N_Unknown : Addr} {bs_Unknown : List Value} {sn_Unknown : List Str} {sub_Unknown : List Value} {ab_Unknown : Bool} {col_Unknown : Option Bool} {dd_Unknown : Option Addr} {m0_Unknown m1_Unknown m2_Unknown m3_Unknown m5_Unknown : Option Value}
    {oi_Unknown : Value} {odi_Unknown ani_Unknown : Option Addr} {sli_Unknown : Array (Option Value)} {kVi_Unknown dci_Unknown pmi_Unknown cti_Unknown : Value}
    {ccl_Unknown : Value} {cdd_Unknown : Option Addr} {cvs_Unknown : Array Value} {ccs_Unknown : Array (Option Value)} {file_Unknown : Str} {tf_Unknown : Tok} {cel_Unknown : Value} {ceo_Unknown : Option Addr} {ces_Unknown : Array (Option Value)}
    {nm_Taken q_Taken : Str} {N_Taken : Addr} {bs_Taken : List Value} {sn_Taken : List Str} {sub_Taken : List Value} {ab_Taken : Bool} {col_Taken : Option Bool} {dd_Taken : Option Addr} {m0_Taken m1_Taken m2_Taken m3_Taken m5_Taken : Option Value}
    {oi_Taken : Value} {odi_Taken ani_Taken : Option Addr} {sli_Taken : Array (Option Value)} {kVi_Taken dci_Taken pmi_Taken cti_Taken : Value}
    {ccl_Taken : Value} {cdd_Taken : Option Addr} {cvs_Taken : Array Value} {ccs_Taken : Array (Option Value)} {file_Taken : Str} {tf_Taken : Tok} {cel_Taken : Value} {ceo_Taken : Option Addr} {ces_Taken : Array (Option Value)}
    {nm_Refused q_Refused : Str} {N_Refused : Addr} {bs_Refused : List Value} {sn_Refused : List Str} {sub_Refused : List Value} {ab_Refused : Bool} {col_Refused : Option Bool} {dd_Refused : Option Addr} {m0_Refused m1_Refused m2_Refused m3_Refused m5_Refused : Option Value}
    {oi_Refused : Value} {odi_Refused ani_Refused : Option Addr} {sli_Refused : Array (Option Value)} {kVi_Refused dci_Refused pmi_Refused cti_Refused : Value}
    {ccl_Refused : Value} {cdd_Refused : Option Addr} {cvs_Refused : Array Value} {ccs_Refused : Array (Option Value)} {file_Refused : Str} {tf_Refused : Tok} {cel_Refused : Value} {ceo_Refused : Option Addr} {ces_Refused : Array (Option Value)}
    (nb_LookupError : PySem.W.nsIn K mainGlobals "LookupError" = some none)
    (nb_RuntimeError : PySem.W.nsIn K mainGlobals "RuntimeError" = some none)
    (nb_ValueError : PySem.W.nsIn K mainGlobals "ValueError" = some none)
    (nb_bool : PySem.W.nsIn K mainGlobals "bool" = some none)
    (nb_int : PySem.W.nsIn K mainGlobals "int" = some none)
    (nb_isinstance : PySem.W.nsIn K mainGlobals "isinstance" = some none)
    (nb_len : PySem.W.nsIn K mainGlobals "len" = some none)
    (nb_list : PySem.W.nsIn K mainGlobals "list" = some none)
    (nb_range : PySem.W.nsIn K mainGlobals "range" = some none)
    (nb_str : PySem.W.nsIn K mainGlobals "str" = some none)
    (nb_tuple : PySem.W.nsIn K mainGlobals "tuple" = some none)
    (a_CoinsError : PySem.W.nsIn K mainGlobals "CoinsError" = some (some (.ref C_CoinsError)))
    (a_BadNumber : PySem.W.nsIn K mainGlobals "BadNumber" = some (some (.ref C_BadNumber)))
    (a_BadName : PySem.W.nsIn K mainGlobals "BadName" = some (some (.ref C_BadName)))
    (a_BadItem : PySem.W.nsIn K mainGlobals "BadItem" = some (some (.ref C_BadItem)))
    (a_BadEvent : PySem.W.nsIn K mainGlobals "BadEvent" = some (some (.ref C_BadEvent)))
    (a_BadNote : PySem.W.nsIn K mainGlobals "BadNote" = some (some (.ref C_BadNote)))
    (a_TooMany : PySem.W.nsIn K mainGlobals "TooMany" = some (some (.ref C_TooMany)))
    (a_Unknown : PySem.W.nsIn K mainGlobals "Unknown" = some (some (.ref C_Unknown)))
    (a_Taken : PySem.W.nsIn K mainGlobals "Taken" = some (some (.ref C_Taken)))
    (a_Refused : PySem.W.nsIn K mainGlobals "Refused" = some (some (.ref C_Refused)))
    (a_NothingToUndo : PySem.W.nsIn K mainGlobals "NothingToUndo" = some (some (.ref C_NothingToUndo)))
    (a_law_taken : PySem.W.nsIn K mainGlobals "_law_taken" = some (some (.ref f_law_taken)))
    (l_law_taken : K.lookup f_law_taken = some ⟨oc_law_taken, od_law_taken, .func (PySem.W.fnOf "_law_taken" "_law_taken" (defArgs (top 13)) (defBody (top 13)) (defScope (top 13)) .none kV_law_taken dc_law_taken pm_law_taken an_law_taken cd_law_taken ct_law_taken), sl_law_taken⟩)
    (c_law_taken : PySem.W.codeIn K cd_law_taken "_law_taken" = true)
    (k_law_taken : PySem.W.keepIn K (.ref f_law_taken) = true)
    (a_law_pick : PySem.W.nsIn K mainGlobals "_law_pick" = some (some (.ref f_law_pick)))
    (l_law_pick : K.lookup f_law_pick = some ⟨oc_law_pick, od_law_pick, .func (PySem.W.fnOf "_law_pick" "_law_pick" (defArgs (top 14)) (defBody (top 14)) (defScope (top 14)) .none kV_law_pick dc_law_pick pm_law_pick an_law_pick cd_law_pick ct_law_pick), sl_law_pick⟩)
    (c_law_pick : PySem.W.codeIn K cd_law_pick "_law_pick" = true)
    (k_law_pick : PySem.W.keepIn K (.ref f_law_pick) = true)
    (a_law_alike : PySem.W.nsIn K mainGlobals "_law_alike" = some (some (.ref f_law_alike)))
    (l_law_alike : K.lookup f_law_alike = some ⟨oc_law_alike, od_law_alike, .func (PySem.W.fnOf "_law_alike" "_law_alike" (defArgs (top 15)) (defBody (top 15)) (defScope (top 15)) .none kV_law_alike dc_law_alike pm_law_alike an_law_alike cd_law_alike ct_law_alike), sl_law_alike⟩)
    (c_law_alike : PySem.W.codeIn K cd_law_alike "_law_alike" = true)
    (k_law_alike : PySem.W.keepIn K (.ref f_law_alike) = true)
    (a_law_raised : PySem.W.nsIn K mainGlobals "_law_raised" = some (some (.ref f_law_raised)))
    (l_law_raised : K.lookup f_law_raised = some ⟨oc_law_raised, od_law_raised, .func (PySem.W.fnOf "_law_raised" "_law_raised" (defArgs (top 16)) (defBody (top 16)) (defScope (top 16)) .none kV_law_raised dc_law_raised pm_law_raised an_law_raised cd_law_raised ct_law_raised), sl_law_raised⟩)
    (c_law_raised : PySem.W.codeIn K cd_law_raised "_law_raised" = true)
    (k_law_raised : PySem.W.keepIn K (.ref f_law_raised) = true)
    (a_law : PySem.W.nsIn K mainGlobals "law" = some (some (.ref f_law)))
    (l_law : K.lookup f_law = some ⟨oc_law, od_law, .func (PySem.W.fnOf "law" "law" (defArgs (top 17)) (defBody (top 17)) (defScope (top 17)) .none kV_law dc_law pm_law an_law cd_law ct_law), sl_law⟩)
    (c_law : PySem.W.codeIn K cd_law "law" = true)
    (k_law : PySem.W.keepIn K (.ref f_law) = true)
    (ga_BadEvent : PySem.W.findIn K (.ref C_BadEvent) "__getattribute__" = some (some (.builtin "BaseException.__getattribute__")))
    (gg_BadEvent : PySem.W.findIn K (.ref C_BadEvent) "__getattr__" = some none)
    (hd_BadEvent : PySem.W.hasDictIn K C_BadEvent = true)
    (ic_BadEvent : PySem.W.isClsIn K C_BadEvent = true)
    (ex_BadEvent : PySem.W.subIn K (.ref C_BadEvent) (.type "BaseException") = some true)
    (ty_BadEvent : PySem.W.typeIn K (.ref C_BadEvent) = some (.type "type"))
    (su_CoinsError_BadEvent : PySem.W.subIn K (.ref C_CoinsError) (.ref C_BadEvent) = some false)
    (su_BadNumber_BadEvent : PySem.W.subIn K (.ref C_BadNumber) (.ref C_BadEvent) = some false)
    (su_BadName_BadEvent : PySem.W.subIn K (.ref C_BadName) (.ref C_BadEvent) = some false)
    (su_BadItem_BadEvent : PySem.W.subIn K (.ref C_BadItem) (.ref C_BadEvent) = some false)
    (su_BadEvent_BadEvent : PySem.W.subIn K (.ref C_BadEvent) (.ref C_BadEvent) = some true)
    (su_BadNote_BadEvent : PySem.W.subIn K (.ref C_BadNote) (.ref C_BadEvent) = some false)
    (su_TooMany_BadEvent : PySem.W.subIn K (.ref C_TooMany) (.ref C_BadEvent) = some false)
    (su_Unknown_BadEvent : PySem.W.subIn K (.ref C_Unknown) (.ref C_BadEvent) = some false)
    (su_Taken_BadEvent : PySem.W.subIn K (.ref C_Taken) (.ref C_BadEvent) = some false)
    (su_Refused_BadEvent : PySem.W.subIn K (.ref C_Refused) (.ref C_BadEvent) = some false)
    (su_NothingToUndo_BadEvent : PySem.W.subIn K (.ref C_NothingToUndo) (.ref C_BadEvent) = some false)
    (ga_BadItem : PySem.W.findIn K (.ref C_BadItem) "__getattribute__" = some (some (.builtin "BaseException.__getattribute__")))
    (gg_BadItem : PySem.W.findIn K (.ref C_BadItem) "__getattr__" = some none)
    (hd_BadItem : PySem.W.hasDictIn K C_BadItem = true)
    (ic_BadItem : PySem.W.isClsIn K C_BadItem = true)
    (ex_BadItem : PySem.W.subIn K (.ref C_BadItem) (.type "BaseException") = some true)
    (ty_BadItem : PySem.W.typeIn K (.ref C_BadItem) = some (.type "type"))
    (su_CoinsError_BadItem : PySem.W.subIn K (.ref C_CoinsError) (.ref C_BadItem) = some false)
    (su_BadNumber_BadItem : PySem.W.subIn K (.ref C_BadNumber) (.ref C_BadItem) = some false)
    (su_BadName_BadItem : PySem.W.subIn K (.ref C_BadName) (.ref C_BadItem) = some false)
    (su_BadItem_BadItem : PySem.W.subIn K (.ref C_BadItem) (.ref C_BadItem) = some true)
    (su_BadEvent_BadItem : PySem.W.subIn K (.ref C_BadEvent) (.ref C_BadItem) = some false)
    (su_BadNote_BadItem : PySem.W.subIn K (.ref C_BadNote) (.ref C_BadItem) = some false)
    (su_TooMany_BadItem : PySem.W.subIn K (.ref C_TooMany) (.ref C_BadItem) = some false)
    (su_Unknown_BadItem : PySem.W.subIn K (.ref C_Unknown) (.ref C_BadItem) = some false)
    (su_Taken_BadItem : PySem.W.subIn K (.ref C_Taken) (.ref C_BadItem) = some false)
    (su_Refused_BadItem : PySem.W.subIn K (.ref C_Refused) (.ref C_BadItem) = some false)
    (su_NothingToUndo_BadItem : PySem.W.subIn K (.ref C_NothingToUndo) (.ref C_BadItem) = some false)
    (ga_BadName : PySem.W.findIn K (.ref C_BadName) "__getattribute__" = some (some (.builtin "BaseException.__getattribute__")))
    (gg_BadName : PySem.W.findIn K (.ref C_BadName) "__getattr__" = some none)
    (hd_BadName : PySem.W.hasDictIn K C_BadName = true)
    (ic_BadName : PySem.W.isClsIn K C_BadName = true)
    (ex_BadName : PySem.W.subIn K (.ref C_BadName) (.type "BaseException") = some true)
    (ty_BadName : PySem.W.typeIn K (.ref C_BadName) = some (.type "type"))
    (su_CoinsError_BadName : PySem.W.subIn K (.ref C_CoinsError) (.ref C_BadName) = some false)
    (su_BadNumber_BadName : PySem.W.subIn K (.ref C_BadNumber) (.ref C_BadName) = some false)
    (su_BadName_BadName : PySem.W.subIn K (.ref C_BadName) (.ref C_BadName) = some true)
    (su_BadItem_BadName : PySem.W.subIn K (.ref C_BadItem) (.ref C_BadName) = some false)
    (su_BadEvent_BadName : PySem.W.subIn K (.ref C_BadEvent) (.ref C_BadName) = some false)
    (su_BadNote_BadName : PySem.W.subIn K (.ref C_BadNote) (.ref C_BadName) = some false)
    (su_TooMany_BadName : PySem.W.subIn K (.ref C_TooMany) (.ref C_BadName) = some false)
    (su_Unknown_BadName : PySem.W.subIn K (.ref C_Unknown) (.ref C_BadName) = some false)
    (su_Taken_BadName : PySem.W.subIn K (.ref C_Taken) (.ref C_BadName) = some false)
    (su_Refused_BadName : PySem.W.subIn K (.ref C_Refused) (.ref C_BadName) = some false)
    (su_NothingToUndo_BadName : PySem.W.subIn K (.ref C_NothingToUndo) (.ref C_BadName) = some false)
    (ga_BadNote : PySem.W.findIn K (.ref C_BadNote) "__getattribute__" = some (some (.builtin "BaseException.__getattribute__")))
    (gg_BadNote : PySem.W.findIn K (.ref C_BadNote) "__getattr__" = some none)
    (hd_BadNote : PySem.W.hasDictIn K C_BadNote = true)
    (ic_BadNote : PySem.W.isClsIn K C_BadNote = true)
    (ex_BadNote : PySem.W.subIn K (.ref C_BadNote) (.type "BaseException") = some true)
    (ty_BadNote : PySem.W.typeIn K (.ref C_BadNote) = some (.type "type"))
    (su_CoinsError_BadNote : PySem.W.subIn K (.ref C_CoinsError) (.ref C_BadNote) = some false)
    (su_BadNumber_BadNote : PySem.W.subIn K (.ref C_BadNumber) (.ref C_BadNote) = some false)
    (su_BadName_BadNote : PySem.W.subIn K (.ref C_BadName) (.ref C_BadNote) = some false)
    (su_BadItem_BadNote : PySem.W.subIn K (.ref C_BadItem) (.ref C_BadNote) = some false)
    (su_BadEvent_BadNote : PySem.W.subIn K (.ref C_BadEvent) (.ref C_BadNote) = some false)
    (su_BadNote_BadNote : PySem.W.subIn K (.ref C_BadNote) (.ref C_BadNote) = some true)
    (su_TooMany_BadNote : PySem.W.subIn K (.ref C_TooMany) (.ref C_BadNote) = some false)
    (su_Unknown_BadNote : PySem.W.subIn K (.ref C_Unknown) (.ref C_BadNote) = some false)
    (su_Taken_BadNote : PySem.W.subIn K (.ref C_Taken) (.ref C_BadNote) = some false)
    (su_Refused_BadNote : PySem.W.subIn K (.ref C_Refused) (.ref C_BadNote) = some false)
    (su_NothingToUndo_BadNote : PySem.W.subIn K (.ref C_NothingToUndo) (.ref C_BadNote) = some false)
    (ga_BadNumber : PySem.W.findIn K (.ref C_BadNumber) "__getattribute__" = some (some (.builtin "BaseException.__getattribute__")))
    (gg_BadNumber : PySem.W.findIn K (.ref C_BadNumber) "__getattr__" = some none)
    (hd_BadNumber : PySem.W.hasDictIn K C_BadNumber = true)
    (ic_BadNumber : PySem.W.isClsIn K C_BadNumber = true)
    (ex_BadNumber : PySem.W.subIn K (.ref C_BadNumber) (.type "BaseException") = some true)
    (ty_BadNumber : PySem.W.typeIn K (.ref C_BadNumber) = some (.type "type"))
    (su_CoinsError_BadNumber : PySem.W.subIn K (.ref C_CoinsError) (.ref C_BadNumber) = some false)
    (su_BadNumber_BadNumber : PySem.W.subIn K (.ref C_BadNumber) (.ref C_BadNumber) = some true)
    (su_BadName_BadNumber : PySem.W.subIn K (.ref C_BadName) (.ref C_BadNumber) = some false)
    (su_BadItem_BadNumber : PySem.W.subIn K (.ref C_BadItem) (.ref C_BadNumber) = some false)
    (su_BadEvent_BadNumber : PySem.W.subIn K (.ref C_BadEvent) (.ref C_BadNumber) = some false)
    (su_BadNote_BadNumber : PySem.W.subIn K (.ref C_BadNote) (.ref C_BadNumber) = some false)
    (su_TooMany_BadNumber : PySem.W.subIn K (.ref C_TooMany) (.ref C_BadNumber) = some false)
    (su_Unknown_BadNumber : PySem.W.subIn K (.ref C_Unknown) (.ref C_BadNumber) = some false)
    (su_Taken_BadNumber : PySem.W.subIn K (.ref C_Taken) (.ref C_BadNumber) = some false)
    (su_Refused_BadNumber : PySem.W.subIn K (.ref C_Refused) (.ref C_BadNumber) = some false)
    (su_NothingToUndo_BadNumber : PySem.W.subIn K (.ref C_NothingToUndo) (.ref C_BadNumber) = some false)
    (ga_CoinsError : PySem.W.findIn K (.ref C_CoinsError) "__getattribute__" = some (some (.builtin "BaseException.__getattribute__")))
    (gg_CoinsError : PySem.W.findIn K (.ref C_CoinsError) "__getattr__" = some none)
    (hd_CoinsError : PySem.W.hasDictIn K C_CoinsError = true)
    (ic_CoinsError : PySem.W.isClsIn K C_CoinsError = true)
    (ex_CoinsError : PySem.W.subIn K (.ref C_CoinsError) (.type "BaseException") = some true)
    (ty_CoinsError : PySem.W.typeIn K (.ref C_CoinsError) = some (.type "type"))
    (su_CoinsError_CoinsError : PySem.W.subIn K (.ref C_CoinsError) (.ref C_CoinsError) = some true)
    (su_BadNumber_CoinsError : PySem.W.subIn K (.ref C_BadNumber) (.ref C_CoinsError) = some true)
    (su_BadName_CoinsError : PySem.W.subIn K (.ref C_BadName) (.ref C_CoinsError) = some true)
    (su_BadItem_CoinsError : PySem.W.subIn K (.ref C_BadItem) (.ref C_CoinsError) = some true)
    (su_BadEvent_CoinsError : PySem.W.subIn K (.ref C_BadEvent) (.ref C_CoinsError) = some true)
    (su_BadNote_CoinsError : PySem.W.subIn K (.ref C_BadNote) (.ref C_CoinsError) = some true)
    (su_TooMany_CoinsError : PySem.W.subIn K (.ref C_TooMany) (.ref C_CoinsError) = some true)
    (su_Unknown_CoinsError : PySem.W.subIn K (.ref C_Unknown) (.ref C_CoinsError) = some true)
    (su_Taken_CoinsError : PySem.W.subIn K (.ref C_Taken) (.ref C_CoinsError) = some true)
    (su_Refused_CoinsError : PySem.W.subIn K (.ref C_Refused) (.ref C_CoinsError) = some true)
    (su_NothingToUndo_CoinsError : PySem.W.subIn K (.ref C_NothingToUndo) (.ref C_CoinsError) = some true)
    (ga_NothingToUndo : PySem.W.findIn K (.ref C_NothingToUndo) "__getattribute__" = some (some (.builtin "BaseException.__getattribute__")))
    (gg_NothingToUndo : PySem.W.findIn K (.ref C_NothingToUndo) "__getattr__" = some none)
    (hd_NothingToUndo : PySem.W.hasDictIn K C_NothingToUndo = true)
    (ic_NothingToUndo : PySem.W.isClsIn K C_NothingToUndo = true)
    (ex_NothingToUndo : PySem.W.subIn K (.ref C_NothingToUndo) (.type "BaseException") = some true)
    (ty_NothingToUndo : PySem.W.typeIn K (.ref C_NothingToUndo) = some (.type "type"))
    (su_CoinsError_NothingToUndo : PySem.W.subIn K (.ref C_CoinsError) (.ref C_NothingToUndo) = some false)
    (su_BadNumber_NothingToUndo : PySem.W.subIn K (.ref C_BadNumber) (.ref C_NothingToUndo) = some false)
    (su_BadName_NothingToUndo : PySem.W.subIn K (.ref C_BadName) (.ref C_NothingToUndo) = some false)
    (su_BadItem_NothingToUndo : PySem.W.subIn K (.ref C_BadItem) (.ref C_NothingToUndo) = some false)
    (su_BadEvent_NothingToUndo : PySem.W.subIn K (.ref C_BadEvent) (.ref C_NothingToUndo) = some false)
    (su_BadNote_NothingToUndo : PySem.W.subIn K (.ref C_BadNote) (.ref C_NothingToUndo) = some false)
    (su_TooMany_NothingToUndo : PySem.W.subIn K (.ref C_TooMany) (.ref C_NothingToUndo) = some false)
    (su_Unknown_NothingToUndo : PySem.W.subIn K (.ref C_Unknown) (.ref C_NothingToUndo) = some false)
    (su_Taken_NothingToUndo : PySem.W.subIn K (.ref C_Taken) (.ref C_NothingToUndo) = some false)
    (su_Refused_NothingToUndo : PySem.W.subIn K (.ref C_Refused) (.ref C_NothingToUndo) = some false)
    (su_NothingToUndo_NothingToUndo : PySem.W.subIn K (.ref C_NothingToUndo) (.ref C_NothingToUndo) = some true)
    (ga_Refused : PySem.W.findIn K (.ref C_Refused) "__getattribute__" = some (some (.builtin "BaseException.__getattribute__")))
    (gg_Refused : PySem.W.findIn K (.ref C_Refused) "__getattr__" = some none)
    (hd_Refused : PySem.W.hasDictIn K C_Refused = true)
    (ic_Refused : PySem.W.isClsIn K C_Refused = true)
    (ex_Refused : PySem.W.subIn K (.ref C_Refused) (.type "BaseException") = some true)
    (ty_Refused : PySem.W.typeIn K (.ref C_Refused) = some (.type "type"))
    (su_CoinsError_Refused : PySem.W.subIn K (.ref C_CoinsError) (.ref C_Refused) = some false)
    (su_BadNumber_Refused : PySem.W.subIn K (.ref C_BadNumber) (.ref C_Refused) = some false)
    (su_BadName_Refused : PySem.W.subIn K (.ref C_BadName) (.ref C_Refused) = some false)
    (su_BadItem_Refused : PySem.W.subIn K (.ref C_BadItem) (.ref C_Refused) = some false)
    (su_BadEvent_Refused : PySem.W.subIn K (.ref C_BadEvent) (.ref C_Refused) = some false)
    (su_BadNote_Refused : PySem.W.subIn K (.ref C_BadNote) (.ref C_Refused) = some false)
    (su_TooMany_Refused : PySem.W.subIn K (.ref C_TooMany) (.ref C_Refused) = some false)
    (su_Unknown_Refused : PySem.W.subIn K (.ref C_Unknown) (.ref C_Refused) = some false)
    (su_Taken_Refused : PySem.W.subIn K (.ref C_Taken) (.ref C_Refused) = some false)
    (su_Refused_Refused : PySem.W.subIn K (.ref C_Refused) (.ref C_Refused) = some true)
    (su_NothingToUndo_Refused : PySem.W.subIn K (.ref C_NothingToUndo) (.ref C_Refused) = some false)
    (ga_Taken : PySem.W.findIn K (.ref C_Taken) "__getattribute__" = some (some (.builtin "BaseException.__getattribute__")))
    (gg_Taken : PySem.W.findIn K (.ref C_Taken) "__getattr__" = some none)
    (hd_Taken : PySem.W.hasDictIn K C_Taken = true)
    (ic_Taken : PySem.W.isClsIn K C_Taken = true)
    (ex_Taken : PySem.W.subIn K (.ref C_Taken) (.type "BaseException") = some true)
    (ty_Taken : PySem.W.typeIn K (.ref C_Taken) = some (.type "type"))
    (su_CoinsError_Taken : PySem.W.subIn K (.ref C_CoinsError) (.ref C_Taken) = some false)
    (su_BadNumber_Taken : PySem.W.subIn K (.ref C_BadNumber) (.ref C_Taken) = some false)
    (su_BadName_Taken : PySem.W.subIn K (.ref C_BadName) (.ref C_Taken) = some false)
    (su_BadItem_Taken : PySem.W.subIn K (.ref C_BadItem) (.ref C_Taken) = some false)
    (su_BadEvent_Taken : PySem.W.subIn K (.ref C_BadEvent) (.ref C_Taken) = some false)
    (su_BadNote_Taken : PySem.W.subIn K (.ref C_BadNote) (.ref C_Taken) = some false)
    (su_TooMany_Taken : PySem.W.subIn K (.ref C_TooMany) (.ref C_Taken) = some false)
    (su_Unknown_Taken : PySem.W.subIn K (.ref C_Unknown) (.ref C_Taken) = some false)
    (su_Taken_Taken : PySem.W.subIn K (.ref C_Taken) (.ref C_Taken) = some true)
    (su_Refused_Taken : PySem.W.subIn K (.ref C_Refused) (.ref C_Taken) = some false)
    (su_NothingToUndo_Taken : PySem.W.subIn K (.ref C_NothingToUndo) (.ref C_Taken) = some false)
    (ga_TooMany : PySem.W.findIn K (.ref C_TooMany) "__getattribute__" = some (some (.builtin "BaseException.__getattribute__")))
    (gg_TooMany : PySem.W.findIn K (.ref C_TooMany) "__getattr__" = some none)
    (hd_TooMany : PySem.W.hasDictIn K C_TooMany = true)
    (ic_TooMany : PySem.W.isClsIn K C_TooMany = true)
    (ex_TooMany : PySem.W.subIn K (.ref C_TooMany) (.type "BaseException") = some true)
    (ty_TooMany : PySem.W.typeIn K (.ref C_TooMany) = some (.type "type"))
    (su_CoinsError_TooMany : PySem.W.subIn K (.ref C_CoinsError) (.ref C_TooMany) = some false)
    (su_BadNumber_TooMany : PySem.W.subIn K (.ref C_BadNumber) (.ref C_TooMany) = some false)
    (su_BadName_TooMany : PySem.W.subIn K (.ref C_BadName) (.ref C_TooMany) = some false)
    (su_BadItem_TooMany : PySem.W.subIn K (.ref C_BadItem) (.ref C_TooMany) = some false)
    (su_BadEvent_TooMany : PySem.W.subIn K (.ref C_BadEvent) (.ref C_TooMany) = some false)
    (su_BadNote_TooMany : PySem.W.subIn K (.ref C_BadNote) (.ref C_TooMany) = some false)
    (su_TooMany_TooMany : PySem.W.subIn K (.ref C_TooMany) (.ref C_TooMany) = some true)
    (su_Unknown_TooMany : PySem.W.subIn K (.ref C_Unknown) (.ref C_TooMany) = some false)
    (su_Taken_TooMany : PySem.W.subIn K (.ref C_Taken) (.ref C_TooMany) = some false)
    (su_Refused_TooMany : PySem.W.subIn K (.ref C_Refused) (.ref C_TooMany) = some false)
    (su_NothingToUndo_TooMany : PySem.W.subIn K (.ref C_NothingToUndo) (.ref C_TooMany) = some false)
    (ga_Unknown : PySem.W.findIn K (.ref C_Unknown) "__getattribute__" = some (some (.builtin "BaseException.__getattribute__")))
    (gg_Unknown : PySem.W.findIn K (.ref C_Unknown) "__getattr__" = some none)
    (hd_Unknown : PySem.W.hasDictIn K C_Unknown = true)
    (ic_Unknown : PySem.W.isClsIn K C_Unknown = true)
    (ex_Unknown : PySem.W.subIn K (.ref C_Unknown) (.type "BaseException") = some true)
    (ty_Unknown : PySem.W.typeIn K (.ref C_Unknown) = some (.type "type"))
    (su_CoinsError_Unknown : PySem.W.subIn K (.ref C_CoinsError) (.ref C_Unknown) = some false)
    (su_BadNumber_Unknown : PySem.W.subIn K (.ref C_BadNumber) (.ref C_Unknown) = some false)
    (su_BadName_Unknown : PySem.W.subIn K (.ref C_BadName) (.ref C_Unknown) = some false)
    (su_BadItem_Unknown : PySem.W.subIn K (.ref C_BadItem) (.ref C_Unknown) = some false)
    (su_BadEvent_Unknown : PySem.W.subIn K (.ref C_BadEvent) (.ref C_Unknown) = some false)
    (su_BadNote_Unknown : PySem.W.subIn K (.ref C_BadNote) (.ref C_Unknown) = some false)
    (su_TooMany_Unknown : PySem.W.subIn K (.ref C_TooMany) (.ref C_Unknown) = some false)
    (su_Unknown_Unknown : PySem.W.subIn K (.ref C_Unknown) (.ref C_Unknown) = some true)
    (su_Taken_Unknown : PySem.W.subIn K (.ref C_Taken) (.ref C_Unknown) = some false)
    (su_Refused_Unknown : PySem.W.subIn K (.ref C_Refused) (.ref C_Unknown) = some false)
    (su_NothingToUndo_Unknown : PySem.W.subIn K (.ref C_NothingToUndo) (.ref C_Unknown) = some false)
    (z_NothingToUndo : PySem.W.excIn K C_NothingToUndo [.type "ValueError", .type "Exception", .type "BaseException", .type "object"] "ValueError.__new__" = true)
    (kc_NothingToUndo : PySem.W.keepIn K (.ref C_NothingToUndo) = true)
    (gn : PySem.W.specialIn K (.builtin "object.__class__") "__get__" = some (some (.builtin "getset_descriptor.__get__")))
    (gt : PySem.W.takesIn K (.builtin "object.__class__") = some true)
    (ca_CoinsError : PySem.W.findIn K (.ref C_CoinsError) "__class__" = some (some (.builtin "object.__class__")))
    (mo_CoinsError : PySem.W.mroIn K C_CoinsError (.type "object") = some true)
    (ko_CoinsError_BadEvent : PySem.W.kitOne K (.ref C_CoinsError) (.ref C_BadEvent) = some false)
    (ko_CoinsError_BadItem : PySem.W.kitOne K (.ref C_CoinsError) (.ref C_BadItem) = some false)
    (ko_CoinsError_BadName : PySem.W.kitOne K (.ref C_CoinsError) (.ref C_BadName) = some false)
    (ko_CoinsError_BadNote : PySem.W.kitOne K (.ref C_CoinsError) (.ref C_BadNote) = some false)
    (ko_CoinsError_BadNumber : PySem.W.kitOne K (.ref C_CoinsError) (.ref C_BadNumber) = some false)
    (ko_CoinsError_LookupError : PySem.W.kitOne K (.ref C_CoinsError) (.type "LookupError") = some false)
    (ko_CoinsError_NothingToUndo : PySem.W.kitOne K (.ref C_CoinsError) (.ref C_NothingToUndo) = some false)
    (ko_CoinsError_Refused : PySem.W.kitOne K (.ref C_CoinsError) (.ref C_Refused) = some false)
    (ko_CoinsError_RuntimeError : PySem.W.kitOne K (.ref C_CoinsError) (.type "RuntimeError") = some false)
    (ko_CoinsError_Taken : PySem.W.kitOne K (.ref C_CoinsError) (.ref C_Taken) = some false)
    (ko_CoinsError_TooMany : PySem.W.kitOne K (.ref C_CoinsError) (.ref C_TooMany) = some false)
    (ko_CoinsError_Unknown : PySem.W.kitOne K (.ref C_CoinsError) (.ref C_Unknown) = some false)
    (ko_CoinsError_ValueError : PySem.W.kitOne K (.ref C_CoinsError) (.type "ValueError") = some true)
    (ca_BadNumber : PySem.W.findIn K (.ref C_BadNumber) "__class__" = some (some (.builtin "object.__class__")))
    (mo_BadNumber : PySem.W.mroIn K C_BadNumber (.type "object") = some true)
    (ko_BadNumber_BadEvent : PySem.W.kitOne K (.ref C_BadNumber) (.ref C_BadEvent) = some false)
    (ko_BadNumber_BadItem : PySem.W.kitOne K (.ref C_BadNumber) (.ref C_BadItem) = some false)
    (ko_BadNumber_BadName : PySem.W.kitOne K (.ref C_BadNumber) (.ref C_BadName) = some false)
    (ko_BadNumber_BadNote : PySem.W.kitOne K (.ref C_BadNumber) (.ref C_BadNote) = some false)
    (ko_BadNumber_BadNumber : PySem.W.kitOne K (.ref C_BadNumber) (.ref C_BadNumber) = some true)
    (ko_BadNumber_LookupError : PySem.W.kitOne K (.ref C_BadNumber) (.type "LookupError") = some false)
    (ko_BadNumber_NothingToUndo : PySem.W.kitOne K (.ref C_BadNumber) (.ref C_NothingToUndo) = some false)
    (ko_BadNumber_Refused : PySem.W.kitOne K (.ref C_BadNumber) (.ref C_Refused) = some false)
    (ko_BadNumber_RuntimeError : PySem.W.kitOne K (.ref C_BadNumber) (.type "RuntimeError") = some false)
    (ko_BadNumber_Taken : PySem.W.kitOne K (.ref C_BadNumber) (.ref C_Taken) = some false)
    (ko_BadNumber_TooMany : PySem.W.kitOne K (.ref C_BadNumber) (.ref C_TooMany) = some false)
    (ko_BadNumber_Unknown : PySem.W.kitOne K (.ref C_BadNumber) (.ref C_Unknown) = some false)
    (ko_BadNumber_ValueError : PySem.W.kitOne K (.ref C_BadNumber) (.type "ValueError") = some true)
    (ca_BadName : PySem.W.findIn K (.ref C_BadName) "__class__" = some (some (.builtin "object.__class__")))
    (mo_BadName : PySem.W.mroIn K C_BadName (.type "object") = some true)
    (ko_BadName_BadEvent : PySem.W.kitOne K (.ref C_BadName) (.ref C_BadEvent) = some false)
    (ko_BadName_BadItem : PySem.W.kitOne K (.ref C_BadName) (.ref C_BadItem) = some false)
    (ko_BadName_BadName : PySem.W.kitOne K (.ref C_BadName) (.ref C_BadName) = some true)
    (ko_BadName_BadNote : PySem.W.kitOne K (.ref C_BadName) (.ref C_BadNote) = some false)
    (ko_BadName_BadNumber : PySem.W.kitOne K (.ref C_BadName) (.ref C_BadNumber) = some false)
    (ko_BadName_LookupError : PySem.W.kitOne K (.ref C_BadName) (.type "LookupError") = some false)
    (ko_BadName_NothingToUndo : PySem.W.kitOne K (.ref C_BadName) (.ref C_NothingToUndo) = some false)
    (ko_BadName_Refused : PySem.W.kitOne K (.ref C_BadName) (.ref C_Refused) = some false)
    (ko_BadName_RuntimeError : PySem.W.kitOne K (.ref C_BadName) (.type "RuntimeError") = some false)
    (ko_BadName_Taken : PySem.W.kitOne K (.ref C_BadName) (.ref C_Taken) = some false)
    (ko_BadName_TooMany : PySem.W.kitOne K (.ref C_BadName) (.ref C_TooMany) = some false)
    (ko_BadName_Unknown : PySem.W.kitOne K (.ref C_BadName) (.ref C_Unknown) = some false)
    (ko_BadName_ValueError : PySem.W.kitOne K (.ref C_BadName) (.type "ValueError") = some true)
    (ca_BadItem : PySem.W.findIn K (.ref C_BadItem) "__class__" = some (some (.builtin "object.__class__")))
    (mo_BadItem : PySem.W.mroIn K C_BadItem (.type "object") = some true)
    (ko_BadItem_BadEvent : PySem.W.kitOne K (.ref C_BadItem) (.ref C_BadEvent) = some false)
    (ko_BadItem_BadItem : PySem.W.kitOne K (.ref C_BadItem) (.ref C_BadItem) = some true)
    (ko_BadItem_BadName : PySem.W.kitOne K (.ref C_BadItem) (.ref C_BadName) = some false)
    (ko_BadItem_BadNote : PySem.W.kitOne K (.ref C_BadItem) (.ref C_BadNote) = some false)
    (ko_BadItem_BadNumber : PySem.W.kitOne K (.ref C_BadItem) (.ref C_BadNumber) = some false)
    (ko_BadItem_LookupError : PySem.W.kitOne K (.ref C_BadItem) (.type "LookupError") = some false)
    (ko_BadItem_NothingToUndo : PySem.W.kitOne K (.ref C_BadItem) (.ref C_NothingToUndo) = some false)
    (ko_BadItem_Refused : PySem.W.kitOne K (.ref C_BadItem) (.ref C_Refused) = some false)
    (ko_BadItem_RuntimeError : PySem.W.kitOne K (.ref C_BadItem) (.type "RuntimeError") = some false)
    (ko_BadItem_Taken : PySem.W.kitOne K (.ref C_BadItem) (.ref C_Taken) = some false)
    (ko_BadItem_TooMany : PySem.W.kitOne K (.ref C_BadItem) (.ref C_TooMany) = some false)
    (ko_BadItem_Unknown : PySem.W.kitOne K (.ref C_BadItem) (.ref C_Unknown) = some false)
    (ko_BadItem_ValueError : PySem.W.kitOne K (.ref C_BadItem) (.type "ValueError") = some true)
    (ca_BadEvent : PySem.W.findIn K (.ref C_BadEvent) "__class__" = some (some (.builtin "object.__class__")))
    (mo_BadEvent : PySem.W.mroIn K C_BadEvent (.type "object") = some true)
    (ko_BadEvent_BadEvent : PySem.W.kitOne K (.ref C_BadEvent) (.ref C_BadEvent) = some true)
    (ko_BadEvent_BadItem : PySem.W.kitOne K (.ref C_BadEvent) (.ref C_BadItem) = some false)
    (ko_BadEvent_BadName : PySem.W.kitOne K (.ref C_BadEvent) (.ref C_BadName) = some false)
    (ko_BadEvent_BadNote : PySem.W.kitOne K (.ref C_BadEvent) (.ref C_BadNote) = some false)
    (ko_BadEvent_BadNumber : PySem.W.kitOne K (.ref C_BadEvent) (.ref C_BadNumber) = some false)
    (ko_BadEvent_LookupError : PySem.W.kitOne K (.ref C_BadEvent) (.type "LookupError") = some false)
    (ko_BadEvent_NothingToUndo : PySem.W.kitOne K (.ref C_BadEvent) (.ref C_NothingToUndo) = some false)
    (ko_BadEvent_Refused : PySem.W.kitOne K (.ref C_BadEvent) (.ref C_Refused) = some false)
    (ko_BadEvent_RuntimeError : PySem.W.kitOne K (.ref C_BadEvent) (.type "RuntimeError") = some false)
    (ko_BadEvent_Taken : PySem.W.kitOne K (.ref C_BadEvent) (.ref C_Taken) = some false)
    (ko_BadEvent_TooMany : PySem.W.kitOne K (.ref C_BadEvent) (.ref C_TooMany) = some false)
    (ko_BadEvent_Unknown : PySem.W.kitOne K (.ref C_BadEvent) (.ref C_Unknown) = some false)
    (ko_BadEvent_ValueError : PySem.W.kitOne K (.ref C_BadEvent) (.type "ValueError") = some true)
    (ca_BadNote : PySem.W.findIn K (.ref C_BadNote) "__class__" = some (some (.builtin "object.__class__")))
    (mo_BadNote : PySem.W.mroIn K C_BadNote (.type "object") = some true)
    (ko_BadNote_BadEvent : PySem.W.kitOne K (.ref C_BadNote) (.ref C_BadEvent) = some false)
    (ko_BadNote_BadItem : PySem.W.kitOne K (.ref C_BadNote) (.ref C_BadItem) = some false)
    (ko_BadNote_BadName : PySem.W.kitOne K (.ref C_BadNote) (.ref C_BadName) = some false)
    (ko_BadNote_BadNote : PySem.W.kitOne K (.ref C_BadNote) (.ref C_BadNote) = some true)
    (ko_BadNote_BadNumber : PySem.W.kitOne K (.ref C_BadNote) (.ref C_BadNumber) = some false)
    (ko_BadNote_LookupError : PySem.W.kitOne K (.ref C_BadNote) (.type "LookupError") = some false)
    (ko_BadNote_NothingToUndo : PySem.W.kitOne K (.ref C_BadNote) (.ref C_NothingToUndo) = some false)
    (ko_BadNote_Refused : PySem.W.kitOne K (.ref C_BadNote) (.ref C_Refused) = some false)
    (ko_BadNote_RuntimeError : PySem.W.kitOne K (.ref C_BadNote) (.type "RuntimeError") = some false)
    (ko_BadNote_Taken : PySem.W.kitOne K (.ref C_BadNote) (.ref C_Taken) = some false)
    (ko_BadNote_TooMany : PySem.W.kitOne K (.ref C_BadNote) (.ref C_TooMany) = some false)
    (ko_BadNote_Unknown : PySem.W.kitOne K (.ref C_BadNote) (.ref C_Unknown) = some false)
    (ko_BadNote_ValueError : PySem.W.kitOne K (.ref C_BadNote) (.type "ValueError") = some true)
    (ca_TooMany : PySem.W.findIn K (.ref C_TooMany) "__class__" = some (some (.builtin "object.__class__")))
    (mo_TooMany : PySem.W.mroIn K C_TooMany (.type "object") = some true)
    (ko_TooMany_BadEvent : PySem.W.kitOne K (.ref C_TooMany) (.ref C_BadEvent) = some false)
    (ko_TooMany_BadItem : PySem.W.kitOne K (.ref C_TooMany) (.ref C_BadItem) = some false)
    (ko_TooMany_BadName : PySem.W.kitOne K (.ref C_TooMany) (.ref C_BadName) = some false)
    (ko_TooMany_BadNote : PySem.W.kitOne K (.ref C_TooMany) (.ref C_BadNote) = some false)
    (ko_TooMany_BadNumber : PySem.W.kitOne K (.ref C_TooMany) (.ref C_BadNumber) = some false)
    (ko_TooMany_LookupError : PySem.W.kitOne K (.ref C_TooMany) (.type "LookupError") = some false)
    (ko_TooMany_NothingToUndo : PySem.W.kitOne K (.ref C_TooMany) (.ref C_NothingToUndo) = some false)
    (ko_TooMany_Refused : PySem.W.kitOne K (.ref C_TooMany) (.ref C_Refused) = some false)
    (ko_TooMany_RuntimeError : PySem.W.kitOne K (.ref C_TooMany) (.type "RuntimeError") = some false)
    (ko_TooMany_Taken : PySem.W.kitOne K (.ref C_TooMany) (.ref C_Taken) = some false)
    (ko_TooMany_TooMany : PySem.W.kitOne K (.ref C_TooMany) (.ref C_TooMany) = some true)
    (ko_TooMany_Unknown : PySem.W.kitOne K (.ref C_TooMany) (.ref C_Unknown) = some false)
    (ko_TooMany_ValueError : PySem.W.kitOne K (.ref C_TooMany) (.type "ValueError") = some true)
    (ca_Unknown : PySem.W.findIn K (.ref C_Unknown) "__class__" = some (some (.builtin "object.__class__")))
    (mo_Unknown : PySem.W.mroIn K C_Unknown (.type "object") = some true)
    (ko_Unknown_BadEvent : PySem.W.kitOne K (.ref C_Unknown) (.ref C_BadEvent) = some false)
    (ko_Unknown_BadItem : PySem.W.kitOne K (.ref C_Unknown) (.ref C_BadItem) = some false)
    (ko_Unknown_BadName : PySem.W.kitOne K (.ref C_Unknown) (.ref C_BadName) = some false)
    (ko_Unknown_BadNote : PySem.W.kitOne K (.ref C_Unknown) (.ref C_BadNote) = some false)
    (ko_Unknown_BadNumber : PySem.W.kitOne K (.ref C_Unknown) (.ref C_BadNumber) = some false)
    (ko_Unknown_LookupError : PySem.W.kitOne K (.ref C_Unknown) (.type "LookupError") = some false)
    (ko_Unknown_NothingToUndo : PySem.W.kitOne K (.ref C_Unknown) (.ref C_NothingToUndo) = some false)
    (ko_Unknown_Refused : PySem.W.kitOne K (.ref C_Unknown) (.ref C_Refused) = some false)
    (ko_Unknown_RuntimeError : PySem.W.kitOne K (.ref C_Unknown) (.type "RuntimeError") = some false)
    (ko_Unknown_Taken : PySem.W.kitOne K (.ref C_Unknown) (.ref C_Taken) = some false)
    (ko_Unknown_TooMany : PySem.W.kitOne K (.ref C_Unknown) (.ref C_TooMany) = some false)
    (ko_Unknown_Unknown : PySem.W.kitOne K (.ref C_Unknown) (.ref C_Unknown) = some true)
    (ko_Unknown_ValueError : PySem.W.kitOne K (.ref C_Unknown) (.type "ValueError") = some true)
    (ca_Taken : PySem.W.findIn K (.ref C_Taken) "__class__" = some (some (.builtin "object.__class__")))
    (mo_Taken : PySem.W.mroIn K C_Taken (.type "object") = some true)
    (ko_Taken_BadEvent : PySem.W.kitOne K (.ref C_Taken) (.ref C_BadEvent) = some false)
    (ko_Taken_BadItem : PySem.W.kitOne K (.ref C_Taken) (.ref C_BadItem) = some false)
    (ko_Taken_BadName : PySem.W.kitOne K (.ref C_Taken) (.ref C_BadName) = some false)
    (ko_Taken_BadNote : PySem.W.kitOne K (.ref C_Taken) (.ref C_BadNote) = some false)
    (ko_Taken_BadNumber : PySem.W.kitOne K (.ref C_Taken) (.ref C_BadNumber) = some false)
    (ko_Taken_LookupError : PySem.W.kitOne K (.ref C_Taken) (.type "LookupError") = some false)
    (ko_Taken_NothingToUndo : PySem.W.kitOne K (.ref C_Taken) (.ref C_NothingToUndo) = some false)
    (ko_Taken_Refused : PySem.W.kitOne K (.ref C_Taken) (.ref C_Refused) = some false)
    (ko_Taken_RuntimeError : PySem.W.kitOne K (.ref C_Taken) (.type "RuntimeError") = some false)
    (ko_Taken_Taken : PySem.W.kitOne K (.ref C_Taken) (.ref C_Taken) = some true)
    (ko_Taken_TooMany : PySem.W.kitOne K (.ref C_Taken) (.ref C_TooMany) = some false)
    (ko_Taken_Unknown : PySem.W.kitOne K (.ref C_Taken) (.ref C_Unknown) = some false)
    (ko_Taken_ValueError : PySem.W.kitOne K (.ref C_Taken) (.type "ValueError") = some true)
    (ca_Refused : PySem.W.findIn K (.ref C_Refused) "__class__" = some (some (.builtin "object.__class__")))
    (mo_Refused : PySem.W.mroIn K C_Refused (.type "object") = some true)
    (ko_Refused_BadEvent : PySem.W.kitOne K (.ref C_Refused) (.ref C_BadEvent) = some false)
    (ko_Refused_BadItem : PySem.W.kitOne K (.ref C_Refused) (.ref C_BadItem) = some false)
    (ko_Refused_BadName : PySem.W.kitOne K (.ref C_Refused) (.ref C_BadName) = some false)
    (ko_Refused_BadNote : PySem.W.kitOne K (.ref C_Refused) (.ref C_BadNote) = some false)
    (ko_Refused_BadNumber : PySem.W.kitOne K (.ref C_Refused) (.ref C_BadNumber) = some false)
    (ko_Refused_LookupError : PySem.W.kitOne K (.ref C_Refused) (.type "LookupError") = some false)
    (ko_Refused_NothingToUndo : PySem.W.kitOne K (.ref C_Refused) (.ref C_NothingToUndo) = some false)
    (ko_Refused_Refused : PySem.W.kitOne K (.ref C_Refused) (.ref C_Refused) = some true)
    (ko_Refused_RuntimeError : PySem.W.kitOne K (.ref C_Refused) (.type "RuntimeError") = some false)
    (ko_Refused_Taken : PySem.W.kitOne K (.ref C_Refused) (.ref C_Taken) = some false)
    (ko_Refused_TooMany : PySem.W.kitOne K (.ref C_Refused) (.ref C_TooMany) = some false)
    (ko_Refused_Unknown : PySem.W.kitOne K (.ref C_Refused) (.ref C_Unknown) = some false)
    (ko_Refused_ValueError : PySem.W.kitOne K (.ref C_Refused) (.type "ValueError") = some true)
    (ca_NothingToUndo : PySem.W.findIn K (.ref C_NothingToUndo) "__class__" = some (some (.builtin "object.__class__")))
    (mo_NothingToUndo : PySem.W.mroIn K C_NothingToUndo (.type "object") = some true)
    (ko_NothingToUndo_BadEvent : PySem.W.kitOne K (.ref C_NothingToUndo) (.ref C_BadEvent) = some false)
    (ko_NothingToUndo_BadItem : PySem.W.kitOne K (.ref C_NothingToUndo) (.ref C_BadItem) = some false)
    (ko_NothingToUndo_BadName : PySem.W.kitOne K (.ref C_NothingToUndo) (.ref C_BadName) = some false)
    (ko_NothingToUndo_BadNote : PySem.W.kitOne K (.ref C_NothingToUndo) (.ref C_BadNote) = some false)
    (ko_NothingToUndo_BadNumber : PySem.W.kitOne K (.ref C_NothingToUndo) (.ref C_BadNumber) = some false)
    (ko_NothingToUndo_LookupError : PySem.W.kitOne K (.ref C_NothingToUndo) (.type "LookupError") = some false)
    (ko_NothingToUndo_NothingToUndo : PySem.W.kitOne K (.ref C_NothingToUndo) (.ref C_NothingToUndo) = some true)
    (ko_NothingToUndo_Refused : PySem.W.kitOne K (.ref C_NothingToUndo) (.ref C_Refused) = some false)
    (ko_NothingToUndo_RuntimeError : PySem.W.kitOne K (.ref C_NothingToUndo) (.type "RuntimeError") = some false)
    (ko_NothingToUndo_Taken : PySem.W.kitOne K (.ref C_NothingToUndo) (.ref C_Taken) = some false)
    (ko_NothingToUndo_TooMany : PySem.W.kitOne K (.ref C_NothingToUndo) (.ref C_TooMany) = some false)
    (ko_NothingToUndo_Unknown : PySem.W.kitOne K (.ref C_NothingToUndo) (.ref C_Unknown) = some false)
    (ko_NothingToUndo_ValueError : PySem.W.kitOne K (.ref C_NothingToUndo) (.type "ValueError") = some true)
    (opq : PySem.W.nsIn K cStatics "thirdparty.any" = some none)
    (nsup : PySem.W.nsIn K mainGlobals "super" = some none)
    (xl_BadNumber : K.lookup C_BadNumber = some (excClassObj nm_BadNumber q_BadNumber C_BadNumber N_BadNumber bs_BadNumber [.ref C_CoinsError, .type "ValueError", .type "Exception", .type "BaseException", .type "object"] true sn_BadNumber sub_BadNumber ab_BadNumber col_BadNumber dd_BadNumber m0_BadNumber m1_BadNumber m2_BadNumber m3_BadNumber m5_BadNumber "ValueError.__new__"))
    (sa_BadNumber : PySem.W.findIn K (.ref C_BadNumber) "__setattr__" = some (some (.builtin "object.__setattr__")))
    (kc_BadNumber : PySem.W.keepIn K (.ref C_BadNumber) = true)
    (ve_BadNumber : PySem.W.subIn K (.ref C_BadNumber) (.type "ValueError") = some true)
    (mr_BadNumber : PySem.W.mroIn K C_BadNumber (.ref C_BadNumber) = some true)
    (ii_BadNumber : PySem.W.findIn K (.ref C_BadNumber) "__init__" = some (some (.ref fI_BadNumber)))
    (ti_BadNumber : PySem.W.typeIn K (.ref fI_BadNumber) = some (.type "function"))
    (li_BadNumber : K.lookup fI_BadNumber = some ⟨oi_BadNumber, odi_BadNumber, .func (PySem.W.ksFn "__init__" "BadNumber.__init__" (eA1 "value" ⟨6, 17, 6, 21⟩ ⟨6, 23, 6, 28⟩) [eSup [.Name "value" ⟨7, 25, 7, 30⟩] ⟨7, 8, 7, 13⟩ ⟨7, 8, 7, 15⟩ ⟨7, 8, 7, 24⟩ ⟨7, 8, 7, 31⟩ ⟨7, 8, 7, 31⟩, eSet "value" ⟨8, 8, 8, 12⟩ ⟨8, 8, 8, 18⟩ ⟨8, 21, 8, 26⟩ ⟨8, 8, 8, 26⟩] (eS1 "value") .none kVi_BadNumber dci_BadNumber pmi_BadNumber ani_BadNumber (.ref cda_BadNumber) cti_BadNumber cc_BadNumber), sli_BadNumber⟩)
    (ci_BadNumber : PySem.W.codeIn K (.ref cda_BadNumber) "BadNumber.__init__" = true)
    (ld_BadNumber : K.lookup cda_BadNumber = some ⟨ccl_BadNumber, cdd_BadNumber, .fields cvs_BadNumber, ccs_BadNumber⟩)
    (fi_BadNumber : cvs_BadNumber[2]? = some (.str file_BadNumber tf_BadNumber))
    (fe_BadNumber : ((P.main.file : Str) == file_BadNumber) = true)
    (lc_BadNumber : K.lookup cc_BadNumber = some ⟨cel_BadNumber, ceo_BadNumber, .cell (some (.ref C_BadNumber)), ces_BadNumber⟩)
    (al_BadNumber : PySem.W.ks_superIn K C_BadNumber C_BadNumber "__init__" = some (some (.builtin "ValueError.__init__")))
    (no_BadNumber_value : PySem.W.findIn K (.ref C_BadNumber) "value" = some none)
    (xl_BadName : K.lookup C_BadName = some (excClassObj nm_BadName q_BadName C_BadName N_BadName bs_BadName [.ref C_CoinsError, .type "ValueError", .type "Exception", .type "BaseException", .type "object"] true sn_BadName sub_BadName ab_BadName col_BadName dd_BadName m0_BadName m1_BadName m2_BadName m3_BadName m5_BadName "ValueError.__new__"))
    (sa_BadName : PySem.W.findIn K (.ref C_BadName) "__setattr__" = some (some (.builtin "object.__setattr__")))
    (kc_BadName : PySem.W.keepIn K (.ref C_BadName) = true)
    (ve_BadName : PySem.W.subIn K (.ref C_BadName) (.type "ValueError") = some true)
    (mr_BadName : PySem.W.mroIn K C_BadName (.ref C_BadName) = some true)
    (ii_BadName : PySem.W.findIn K (.ref C_BadName) "__init__" = some (some (.ref fI_BadName)))
    (ti_BadName : PySem.W.typeIn K (.ref fI_BadName) = some (.type "function"))
    (li_BadName : K.lookup fI_BadName = some ⟨oi_BadName, odi_BadName, .func (PySem.W.ksFn "__init__" "BadName.__init__" (eA1 "value" ⟨11, 17, 11, 21⟩ ⟨11, 23, 11, 28⟩) [eSup [.Name "value" ⟨12, 25, 12, 30⟩] ⟨12, 8, 12, 13⟩ ⟨12, 8, 12, 15⟩ ⟨12, 8, 12, 24⟩ ⟨12, 8, 12, 31⟩ ⟨12, 8, 12, 31⟩, eSet "value" ⟨13, 8, 13, 12⟩ ⟨13, 8, 13, 18⟩ ⟨13, 21, 13, 26⟩ ⟨13, 8, 13, 26⟩] (eS1 "value") .none kVi_BadName dci_BadName pmi_BadName ani_BadName (.ref cda_BadName) cti_BadName cc_BadName), sli_BadName⟩)
    (ci_BadName : PySem.W.codeIn K (.ref cda_BadName) "BadName.__init__" = true)
    (ld_BadName : K.lookup cda_BadName = some ⟨ccl_BadName, cdd_BadName, .fields cvs_BadName, ccs_BadName⟩)
    (fi_BadName : cvs_BadName[2]? = some (.str file_BadName tf_BadName))
    (fe_BadName : ((P.main.file : Str) == file_BadName) = true)
    (lc_BadName : K.lookup cc_BadName = some ⟨cel_BadName, ceo_BadName, .cell (some (.ref C_BadName)), ces_BadName⟩)
    (al_BadName : PySem.W.ks_superIn K C_BadName C_BadName "__init__" = some (some (.builtin "ValueError.__init__")))
    (no_BadName_value : PySem.W.findIn K (.ref C_BadName) "value" = some none)
    (xl_BadItem : K.lookup C_BadItem = some (excClassObj nm_BadItem q_BadItem C_BadItem N_BadItem bs_BadItem [.ref C_CoinsError, .type "ValueError", .type "Exception", .type "BaseException", .type "object"] true sn_BadItem sub_BadItem ab_BadItem col_BadItem dd_BadItem m0_BadItem m1_BadItem m2_BadItem m3_BadItem m5_BadItem "ValueError.__new__"))
    (sa_BadItem : PySem.W.findIn K (.ref C_BadItem) "__setattr__" = some (some (.builtin "object.__setattr__")))
    (kc_BadItem : PySem.W.keepIn K (.ref C_BadItem) = true)
    (ve_BadItem : PySem.W.subIn K (.ref C_BadItem) (.type "ValueError") = some true)
    (mr_BadItem : PySem.W.mroIn K C_BadItem (.ref C_BadItem) = some true)
    (ii_BadItem : PySem.W.findIn K (.ref C_BadItem) "__init__" = some (some (.ref fI_BadItem)))
    (ti_BadItem : PySem.W.typeIn K (.ref fI_BadItem) = some (.type "function"))
    (li_BadItem : K.lookup fI_BadItem = some ⟨oi_BadItem, odi_BadItem, .func (PySem.W.ksFn "__init__" "BadItem.__init__" (eA1 "index" ⟨16, 17, 16, 21⟩ ⟨16, 23, 16, 28⟩) [eSup [.Name "index" ⟨17, 25, 17, 30⟩] ⟨17, 8, 17, 13⟩ ⟨17, 8, 17, 15⟩ ⟨17, 8, 17, 24⟩ ⟨17, 8, 17, 31⟩ ⟨17, 8, 17, 31⟩, eSet "index" ⟨18, 8, 18, 12⟩ ⟨18, 8, 18, 18⟩ ⟨18, 21, 18, 26⟩ ⟨18, 8, 18, 26⟩] (eS1 "index") .none kVi_BadItem dci_BadItem pmi_BadItem ani_BadItem (.ref cda_BadItem) cti_BadItem cc_BadItem), sli_BadItem⟩)
    (ci_BadItem : PySem.W.codeIn K (.ref cda_BadItem) "BadItem.__init__" = true)
    (ld_BadItem : K.lookup cda_BadItem = some ⟨ccl_BadItem, cdd_BadItem, .fields cvs_BadItem, ccs_BadItem⟩)
    (fi_BadItem : cvs_BadItem[2]? = some (.str file_BadItem tf_BadItem))
    (fe_BadItem : ((P.main.file : Str) == file_BadItem) = true)
    (lc_BadItem : K.lookup cc_BadItem = some ⟨cel_BadItem, ceo_BadItem, .cell (some (.ref C_BadItem)), ces_BadItem⟩)
    (al_BadItem : PySem.W.ks_superIn K C_BadItem C_BadItem "__init__" = some (some (.builtin "ValueError.__init__")))
    (no_BadItem_index : PySem.W.findIn K (.ref C_BadItem) "index" = some none)
    (xl_BadEvent : K.lookup C_BadEvent = some (excClassObj nm_BadEvent q_BadEvent C_BadEvent N_BadEvent bs_BadEvent [.ref C_CoinsError, .type "ValueError", .type "Exception", .type "BaseException", .type "object"] true sn_BadEvent sub_BadEvent ab_BadEvent col_BadEvent dd_BadEvent m0_BadEvent m1_BadEvent m2_BadEvent m3_BadEvent m5_BadEvent "ValueError.__new__"))
    (sa_BadEvent : PySem.W.findIn K (.ref C_BadEvent) "__setattr__" = some (some (.builtin "object.__setattr__")))
    (kc_BadEvent : PySem.W.keepIn K (.ref C_BadEvent) = true)
    (ve_BadEvent : PySem.W.subIn K (.ref C_BadEvent) (.type "ValueError") = some true)
    (mr_BadEvent : PySem.W.mroIn K C_BadEvent (.ref C_BadEvent) = some true)
    (ii_BadEvent : PySem.W.findIn K (.ref C_BadEvent) "__init__" = some (some (.ref fI_BadEvent)))
    (ti_BadEvent : PySem.W.typeIn K (.ref fI_BadEvent) = some (.type "function"))
    (li_BadEvent : K.lookup fI_BadEvent = some ⟨oi_BadEvent, odi_BadEvent, .func (PySem.W.ksFn "__init__" "BadEvent.__init__" (eA1 "value" ⟨21, 17, 21, 21⟩ ⟨21, 23, 21, 28⟩) [eSup [.Name "value" ⟨22, 25, 22, 30⟩] ⟨22, 8, 22, 13⟩ ⟨22, 8, 22, 15⟩ ⟨22, 8, 22, 24⟩ ⟨22, 8, 22, 31⟩ ⟨22, 8, 22, 31⟩, eSet "value" ⟨23, 8, 23, 12⟩ ⟨23, 8, 23, 18⟩ ⟨23, 21, 23, 26⟩ ⟨23, 8, 23, 26⟩] (eS1 "value") .none kVi_BadEvent dci_BadEvent pmi_BadEvent ani_BadEvent (.ref cda_BadEvent) cti_BadEvent cc_BadEvent), sli_BadEvent⟩)
    (ci_BadEvent : PySem.W.codeIn K (.ref cda_BadEvent) "BadEvent.__init__" = true)
    (ld_BadEvent : K.lookup cda_BadEvent = some ⟨ccl_BadEvent, cdd_BadEvent, .fields cvs_BadEvent, ccs_BadEvent⟩)
    (fi_BadEvent : cvs_BadEvent[2]? = some (.str file_BadEvent tf_BadEvent))
    (fe_BadEvent : ((P.main.file : Str) == file_BadEvent) = true)
    (lc_BadEvent : K.lookup cc_BadEvent = some ⟨cel_BadEvent, ceo_BadEvent, .cell (some (.ref C_BadEvent)), ces_BadEvent⟩)
    (al_BadEvent : PySem.W.ks_superIn K C_BadEvent C_BadEvent "__init__" = some (some (.builtin "ValueError.__init__")))
    (no_BadEvent_value : PySem.W.findIn K (.ref C_BadEvent) "value" = some none)
    (xl_BadNote : K.lookup C_BadNote = some (excClassObj nm_BadNote q_BadNote C_BadNote N_BadNote bs_BadNote [.ref C_CoinsError, .type "ValueError", .type "Exception", .type "BaseException", .type "object"] true sn_BadNote sub_BadNote ab_BadNote col_BadNote dd_BadNote m0_BadNote m1_BadNote m2_BadNote m3_BadNote m5_BadNote "ValueError.__new__"))
    (sa_BadNote : PySem.W.findIn K (.ref C_BadNote) "__setattr__" = some (some (.builtin "object.__setattr__")))
    (kc_BadNote : PySem.W.keepIn K (.ref C_BadNote) = true)
    (ve_BadNote : PySem.W.subIn K (.ref C_BadNote) (.type "ValueError") = some true)
    (mr_BadNote : PySem.W.mroIn K C_BadNote (.ref C_BadNote) = some true)
    (ii_BadNote : PySem.W.findIn K (.ref C_BadNote) "__init__" = some (some (.ref fI_BadNote)))
    (ti_BadNote : PySem.W.typeIn K (.ref fI_BadNote) = some (.type "function"))
    (li_BadNote : K.lookup fI_BadNote = some ⟨oi_BadNote, odi_BadNote, .func (PySem.W.ksFn "__init__" "BadNote.__init__" (eA1 "line" ⟨26, 17, 26, 21⟩ ⟨26, 23, 26, 27⟩) [eSup [.Name "line" ⟨27, 25, 27, 29⟩] ⟨27, 8, 27, 13⟩ ⟨27, 8, 27, 15⟩ ⟨27, 8, 27, 24⟩ ⟨27, 8, 27, 30⟩ ⟨27, 8, 27, 30⟩, eSet "line" ⟨28, 8, 28, 12⟩ ⟨28, 8, 28, 17⟩ ⟨28, 20, 28, 24⟩ ⟨28, 8, 28, 24⟩] (eS1 "line") .none kVi_BadNote dci_BadNote pmi_BadNote ani_BadNote (.ref cda_BadNote) cti_BadNote cc_BadNote), sli_BadNote⟩)
    (ci_BadNote : PySem.W.codeIn K (.ref cda_BadNote) "BadNote.__init__" = true)
    (ld_BadNote : K.lookup cda_BadNote = some ⟨ccl_BadNote, cdd_BadNote, .fields cvs_BadNote, ccs_BadNote⟩)
    (fi_BadNote : cvs_BadNote[2]? = some (.str file_BadNote tf_BadNote))
    (fe_BadNote : ((P.main.file : Str) == file_BadNote) = true)
    (lc_BadNote : K.lookup cc_BadNote = some ⟨cel_BadNote, ceo_BadNote, .cell (some (.ref C_BadNote)), ces_BadNote⟩)
    (al_BadNote : PySem.W.ks_superIn K C_BadNote C_BadNote "__init__" = some (some (.builtin "ValueError.__init__")))
    (no_BadNote_line : PySem.W.findIn K (.ref C_BadNote) "line" = some none)
    (xl_TooMany : K.lookup C_TooMany = some (excClassObj nm_TooMany q_TooMany C_TooMany N_TooMany bs_TooMany [.ref C_CoinsError, .type "ValueError", .type "Exception", .type "BaseException", .type "object"] true sn_TooMany sub_TooMany ab_TooMany col_TooMany dd_TooMany m0_TooMany m1_TooMany m2_TooMany m3_TooMany m5_TooMany "ValueError.__new__"))
    (sa_TooMany : PySem.W.findIn K (.ref C_TooMany) "__setattr__" = some (some (.builtin "object.__setattr__")))
    (kc_TooMany : PySem.W.keepIn K (.ref C_TooMany) = true)
    (ve_TooMany : PySem.W.subIn K (.ref C_TooMany) (.type "ValueError") = some true)
    (mr_TooMany : PySem.W.mroIn K C_TooMany (.ref C_TooMany) = some true)
    (ii_TooMany : PySem.W.findIn K (.ref C_TooMany) "__init__" = some (some (.ref fI_TooMany)))
    (ti_TooMany : PySem.W.typeIn K (.ref fI_TooMany) = some (.type "function"))
    (li_TooMany : K.lookup fI_TooMany = some ⟨oi_TooMany, odi_TooMany, .func (PySem.W.ksFn "__init__" "TooMany.__init__" (eA1 "limit" ⟨31, 17, 31, 21⟩ ⟨31, 23, 31, 28⟩) [eSup [.Name "limit" ⟨32, 25, 32, 30⟩] ⟨32, 8, 32, 13⟩ ⟨32, 8, 32, 15⟩ ⟨32, 8, 32, 24⟩ ⟨32, 8, 32, 31⟩ ⟨32, 8, 32, 31⟩, eSet "limit" ⟨33, 8, 33, 12⟩ ⟨33, 8, 33, 18⟩ ⟨33, 21, 33, 26⟩ ⟨33, 8, 33, 26⟩] (eS1 "limit") .none kVi_TooMany dci_TooMany pmi_TooMany ani_TooMany (.ref cda_TooMany) cti_TooMany cc_TooMany), sli_TooMany⟩)
    (ci_TooMany : PySem.W.codeIn K (.ref cda_TooMany) "TooMany.__init__" = true)
    (ld_TooMany : K.lookup cda_TooMany = some ⟨ccl_TooMany, cdd_TooMany, .fields cvs_TooMany, ccs_TooMany⟩)
    (fi_TooMany : cvs_TooMany[2]? = some (.str file_TooMany tf_TooMany))
    (fe_TooMany : ((P.main.file : Str) == file_TooMany) = true)
    (lc_TooMany : K.lookup cc_TooMany = some ⟨cel_TooMany, ceo_TooMany, .cell (some (.ref C_TooMany)), ces_TooMany⟩)
    (al_TooMany : PySem.W.ks_superIn K C_TooMany C_TooMany "__init__" = some (some (.builtin "ValueError.__init__")))
    (no_TooMany_limit : PySem.W.findIn K (.ref C_TooMany) "limit" = some none)
    (xl_Unknown : K.lookup C_Unknown = some (excClassObj nm_Unknown q_Unknown C_Unknown N_Unknown bs_Unknown [.ref C_CoinsError, .type "ValueError", .type "Exception", .type "BaseException", .type "object"] true sn_Unknown sub_Unknown ab_Unknown col_Unknown dd_Unknown m0_Unknown m1_Unknown m2_Unknown m3_Unknown m5_Unknown "ValueError.__new__"))
    (sa_Unknown : PySem.W.findIn K (.ref C_Unknown) "__setattr__" = some (some (.builtin "object.__setattr__")))
    (kc_Unknown : PySem.W.keepIn K (.ref C_Unknown) = true)
    (ve_Unknown : PySem.W.subIn K (.ref C_Unknown) (.type "ValueError") = some true)
    (mr_Unknown : PySem.W.mroIn K C_Unknown (.ref C_Unknown) = some true)
    (ii_Unknown : PySem.W.findIn K (.ref C_Unknown) "__init__" = some (some (.ref fI_Unknown)))
    (ti_Unknown : PySem.W.typeIn K (.ref fI_Unknown) = some (.type "function"))
    (li_Unknown : K.lookup fI_Unknown = some ⟨oi_Unknown, odi_Unknown, .func (PySem.W.ksFn "__init__" "Unknown.__init__" (eA1 "value" ⟨36, 17, 36, 21⟩ ⟨36, 23, 36, 28⟩) [eSup [.Name "value" ⟨37, 25, 37, 30⟩] ⟨37, 8, 37, 13⟩ ⟨37, 8, 37, 15⟩ ⟨37, 8, 37, 24⟩ ⟨37, 8, 37, 31⟩ ⟨37, 8, 37, 31⟩, eSet "value" ⟨38, 8, 38, 12⟩ ⟨38, 8, 38, 18⟩ ⟨38, 21, 38, 26⟩ ⟨38, 8, 38, 26⟩] (eS1 "value") .none kVi_Unknown dci_Unknown pmi_Unknown ani_Unknown (.ref cda_Unknown) cti_Unknown cc_Unknown), sli_Unknown⟩)
    (ci_Unknown : PySem.W.codeIn K (.ref cda_Unknown) "Unknown.__init__" = true)
    (ld_Unknown : K.lookup cda_Unknown = some ⟨ccl_Unknown, cdd_Unknown, .fields cvs_Unknown, ccs_Unknown⟩)
    (fi_Unknown : cvs_Unknown[2]? = some (.str file_Unknown tf_Unknown))
    (fe_Unknown : ((P.main.file : Str) == file_Unknown) = true)
    (lc_Unknown : K.lookup cc_Unknown = some ⟨cel_Unknown, ceo_Unknown, .cell (some (.ref C_Unknown)), ces_Unknown⟩)
    (al_Unknown : PySem.W.ks_superIn K C_Unknown C_Unknown "__init__" = some (some (.builtin "ValueError.__init__")))
    (no_Unknown_value : PySem.W.findIn K (.ref C_Unknown) "value" = some none)
    (xl_Taken : K.lookup C_Taken = some (excClassObj nm_Taken q_Taken C_Taken N_Taken bs_Taken [.ref C_CoinsError, .type "ValueError", .type "Exception", .type "BaseException", .type "object"] true sn_Taken sub_Taken ab_Taken col_Taken dd_Taken m0_Taken m1_Taken m2_Taken m3_Taken m5_Taken "ValueError.__new__"))
    (sa_Taken : PySem.W.findIn K (.ref C_Taken) "__setattr__" = some (some (.builtin "object.__setattr__")))
    (kc_Taken : PySem.W.keepIn K (.ref C_Taken) = true)
    (ve_Taken : PySem.W.subIn K (.ref C_Taken) (.type "ValueError") = some true)
    (mr_Taken : PySem.W.mroIn K C_Taken (.ref C_Taken) = some true)
    (ii_Taken : PySem.W.findIn K (.ref C_Taken) "__init__" = some (some (.ref fI_Taken)))
    (ti_Taken : PySem.W.typeIn K (.ref fI_Taken) = some (.type "function"))
    (li_Taken : K.lookup fI_Taken = some ⟨oi_Taken, odi_Taken, .func (PySem.W.ksFn "__init__" "Taken.__init__" (eA1 "value" ⟨41, 17, 41, 21⟩ ⟨41, 23, 41, 28⟩) [eSup [.Name "value" ⟨42, 25, 42, 30⟩] ⟨42, 8, 42, 13⟩ ⟨42, 8, 42, 15⟩ ⟨42, 8, 42, 24⟩ ⟨42, 8, 42, 31⟩ ⟨42, 8, 42, 31⟩, eSet "value" ⟨43, 8, 43, 12⟩ ⟨43, 8, 43, 18⟩ ⟨43, 21, 43, 26⟩ ⟨43, 8, 43, 26⟩] (eS1 "value") .none kVi_Taken dci_Taken pmi_Taken ani_Taken (.ref cda_Taken) cti_Taken cc_Taken), sli_Taken⟩)
    (ci_Taken : PySem.W.codeIn K (.ref cda_Taken) "Taken.__init__" = true)
    (ld_Taken : K.lookup cda_Taken = some ⟨ccl_Taken, cdd_Taken, .fields cvs_Taken, ccs_Taken⟩)
    (fi_Taken : cvs_Taken[2]? = some (.str file_Taken tf_Taken))
    (fe_Taken : ((P.main.file : Str) == file_Taken) = true)
    (lc_Taken : K.lookup cc_Taken = some ⟨cel_Taken, ceo_Taken, .cell (some (.ref C_Taken)), ces_Taken⟩)
    (al_Taken : PySem.W.ks_superIn K C_Taken C_Taken "__init__" = some (some (.builtin "ValueError.__init__")))
    (no_Taken_value : PySem.W.findIn K (.ref C_Taken) "value" = some none)
    (xl_Refused : K.lookup C_Refused = some (excClassObj nm_Refused q_Refused C_Refused N_Refused bs_Refused [.ref C_CoinsError, .type "ValueError", .type "Exception", .type "BaseException", .type "object"] true sn_Refused sub_Refused ab_Refused col_Refused dd_Refused m0_Refused m1_Refused m2_Refused m3_Refused m5_Refused "ValueError.__new__"))
    (sa_Refused : PySem.W.findIn K (.ref C_Refused) "__setattr__" = some (some (.builtin "object.__setattr__")))
    (kc_Refused : PySem.W.keepIn K (.ref C_Refused) = true)
    (ve_Refused : PySem.W.subIn K (.ref C_Refused) (.type "ValueError") = some true)
    (mr_Refused : PySem.W.mroIn K C_Refused (.ref C_Refused) = some true)
    (ii_Refused : PySem.W.findIn K (.ref C_Refused) "__init__" = some (some (.ref fI_Refused)))
    (ti_Refused : PySem.W.typeIn K (.ref fI_Refused) = some (.type "function"))
    (li_Refused : K.lookup fI_Refused = some ⟨oi_Refused, odi_Refused, .func (PySem.W.ksFn "__init__" "Refused.__init__" (eA2 "reason" "names" ⟨46, 17, 46, 21⟩ ⟨46, 23, 46, 29⟩ ⟨46, 31, 46, 36⟩) [eSup [.Name "reason" ⟨47, 25, 47, 31⟩, .Name "names" ⟨47, 33, 47, 38⟩] ⟨47, 8, 47, 13⟩ ⟨47, 8, 47, 15⟩ ⟨47, 8, 47, 24⟩ ⟨47, 8, 47, 39⟩ ⟨47, 8, 47, 39⟩, eSet "reason" ⟨48, 8, 48, 12⟩ ⟨48, 8, 48, 19⟩ ⟨48, 22, 48, 28⟩ ⟨48, 8, 48, 28⟩, eSet "names" ⟨49, 8, 49, 12⟩ ⟨49, 8, 49, 18⟩ ⟨49, 21, 49, 26⟩ ⟨49, 8, 49, 26⟩] (eS2 "reason" "names") .none kVi_Refused dci_Refused pmi_Refused ani_Refused (.ref cda_Refused) cti_Refused cc_Refused), sli_Refused⟩)
    (ci_Refused : PySem.W.codeIn K (.ref cda_Refused) "Refused.__init__" = true)
    (ld_Refused : K.lookup cda_Refused = some ⟨ccl_Refused, cdd_Refused, .fields cvs_Refused, ccs_Refused⟩)
    (fi_Refused : cvs_Refused[2]? = some (.str file_Refused tf_Refused))
    (fe_Refused : ((P.main.file : Str) == file_Refused) = true)
    (lc_Refused : K.lookup cc_Refused = some ⟨cel_Refused, ceo_Refused, .cell (some (.ref C_Refused)), ces_Refused⟩)
    (al_Refused : PySem.W.ks_superIn K C_Refused C_Refused "__init__" = some (some (.builtin "ValueError.__init__")))
    (no_Refused_reason : PySem.W.findIn K (.ref C_Refused) "reason" = some none)
    (no_Refused_names : PySem.W.findIn K (.ref C_Refused) "names" = some none)
    (tp : (P.main.scope.names.lookup ("super" : Str)).isSome = false) :
    ∃ (fd : FuncData) (T : Cfg), T.K = K ∧ (∀ (s : Shared) (u : Value), BindsTo s fd ⟨[u], []⟩ [(("script" : Str), u)]) ∧ ∀ base : Heap, K.In base → base.Ns mainGlobals mg → FnG P w K mg base 32 fa fd ["script"] (spM T m_law 1) := by
  have e := hfa.symm.trans (PySem.W.mg_of X G a_law)
  have e : f_law = fa := by cases e; rfl
  subst e
  have F_law_taken := fun_mk (st := top 13) l_law_taken c_law_taken k_law_taken
  have b_law_taken := F_law_taken.binds (ps := ["row", "many"]) fun _ _ _ _ _ _ us hl => match us, hl with | [_, _], _ => rfl
  have F_law_pick := fun_mk (st := top 14) l_law_pick c_law_pick k_law_pick
  have b_law_pick := F_law_pick.binds (ps := ["row", "kinds"]) fun _ _ _ _ _ _ us hl => match us, hl with | [_, _], _ => rfl
  have F_law_alike := fun_mk (st := top 15) l_law_alike c_law_alike k_law_alike
  have b_law_alike := F_law_alike.binds (ps := ["found", "due"]) fun _ _ _ _ _ _ us hl => match us, hl with | [_, _], _ => rfl
  have F_law_raised := fun_mk (st := top 16) l_law_raised c_law_raised k_law_raised
  have b_law_raised := F_law_raised.binds (ps := ["number", "value", "named"]) fun _ _ _ _ _ _ us hl => match us, hl with | [_, _, _], _ => rfl
  have F_law := fun_mk (st := top 17) l_law c_law k_law
  have b_law := F_law.binds (ps := ["script"]) fun _ _ _ _ _ _ us hl => match us, hl with | [_], _ => rfl
  have X0 : Txt P K mg f_law_taken f_law_pick f_law_alike f_law_raised f_law _ _ _ _ _ C_CoinsError C_BadNumber C_BadName C_BadItem C_BadEvent C_BadNote C_TooMany C_Unknown C_Taken C_Refused C_NothingToUndo fI_BadNumber cda_BadNumber cc_BadNumber fI_BadName cda_BadName cc_BadName fI_BadItem cda_BadItem cc_BadItem fI_BadEvent cda_BadEvent cc_BadEvent fI_BadNote cda_BadNote cc_BadNote fI_TooMany cda_TooMany cc_TooMany fI_Unknown cda_Unknown cc_Unknown fI_Taken cda_Taken cc_Taken fI_Refused cda_Refused cc_Refused :=
    { n_LookupError := PySem.W.mg_none_of X G nb_LookupError,
      n_RuntimeError := PySem.W.mg_none_of X G nb_RuntimeError,
      n_ValueError := PySem.W.mg_none_of X G nb_ValueError,
      n_bool := PySem.W.mg_none_of X G nb_bool,
      n_int := PySem.W.mg_none_of X G nb_int,
      n_isinstance := PySem.W.mg_none_of X G nb_isinstance,
      n_len := PySem.W.mg_none_of X G nb_len,
      n_list := PySem.W.mg_none_of X G nb_list,
      n_range := PySem.W.mg_none_of X G nb_range,
      n_str := PySem.W.mg_none_of X G nb_str,
      n_tuple := PySem.W.mg_none_of X G nb_tuple,
      g_law_taken := PySem.W.mg_of X G a_law_taken,
      k_law_taken := k_law_taken,
      F_law_taken := F_law_taken,
      b_law_taken := b_law_taken,
      g_law_pick := PySem.W.mg_of X G a_law_pick,
      k_law_pick := k_law_pick,
      F_law_pick := F_law_pick,
      b_law_pick := b_law_pick,
      g_law_alike := PySem.W.mg_of X G a_law_alike,
      k_law_alike := k_law_alike,
      F_law_alike := F_law_alike,
      b_law_alike := b_law_alike,
      g_law_raised := PySem.W.mg_of X G a_law_raised,
      k_law_raised := k_law_raised,
      F_law_raised := F_law_raised,
      b_law_raised := b_law_raised,
      g_law := PySem.W.mg_of X G a_law,
      k_law := k_law,
      F_law := F_law,
      b_law := b_law,
      gc_BadEvent := PySem.W.mg_of X G a_BadEvent,
      x_BadEvent := ⟨ga_BadEvent, gg_BadEvent, ex_BadEvent, hd_BadEvent⟩,
      isa_BadEvent := (isa_cons (exm_of ex_BadEvent ic_BadEvent ty_BadEvent su_CoinsError_BadEvent) (by decide) (isa_cons (exm_of ex_BadEvent ic_BadEvent ty_BadEvent su_BadNumber_BadEvent) (by decide) (isa_cons (exm_of ex_BadEvent ic_BadEvent ty_BadEvent su_BadName_BadEvent) (by decide) (isa_cons (exm_of ex_BadEvent ic_BadEvent ty_BadEvent su_BadItem_BadEvent) (by decide) (isa_cons (exm_of ex_BadEvent ic_BadEvent ty_BadEvent su_BadEvent_BadEvent) (by decide) (isa_cons (exm_of ex_BadEvent ic_BadEvent ty_BadEvent su_BadNote_BadEvent) (by decide) (isa_cons (exm_of ex_BadEvent ic_BadEvent ty_BadEvent su_TooMany_BadEvent) (by decide) (isa_cons (exm_of ex_BadEvent ic_BadEvent ty_BadEvent su_Unknown_BadEvent) (by decide) (isa_cons (exm_of ex_BadEvent ic_BadEvent ty_BadEvent su_Taken_BadEvent) (by decide) (isa_cons (exm_of ex_BadEvent ic_BadEvent ty_BadEvent su_Refused_BadEvent) (by decide) (isa_cons (exm_of ex_BadEvent ic_BadEvent ty_BadEvent su_NothingToUndo_BadEvent) (by decide) isa_nil))))))))))),
      gc_BadItem := PySem.W.mg_of X G a_BadItem,
      x_BadItem := ⟨ga_BadItem, gg_BadItem, ex_BadItem, hd_BadItem⟩,
      isa_BadItem := (isa_cons (exm_of ex_BadItem ic_BadItem ty_BadItem su_CoinsError_BadItem) (by decide) (isa_cons (exm_of ex_BadItem ic_BadItem ty_BadItem su_BadNumber_BadItem) (by decide) (isa_cons (exm_of ex_BadItem ic_BadItem ty_BadItem su_BadName_BadItem) (by decide) (isa_cons (exm_of ex_BadItem ic_BadItem ty_BadItem su_BadItem_BadItem) (by decide) (isa_cons (exm_of ex_BadItem ic_BadItem ty_BadItem su_BadEvent_BadItem) (by decide) (isa_cons (exm_of ex_BadItem ic_BadItem ty_BadItem su_BadNote_BadItem) (by decide) (isa_cons (exm_of ex_BadItem ic_BadItem ty_BadItem su_TooMany_BadItem) (by decide) (isa_cons (exm_of ex_BadItem ic_BadItem ty_BadItem su_Unknown_BadItem) (by decide) (isa_cons (exm_of ex_BadItem ic_BadItem ty_BadItem su_Taken_BadItem) (by decide) (isa_cons (exm_of ex_BadItem ic_BadItem ty_BadItem su_Refused_BadItem) (by decide) (isa_cons (exm_of ex_BadItem ic_BadItem ty_BadItem su_NothingToUndo_BadItem) (by decide) isa_nil))))))))))),
      gc_BadName := PySem.W.mg_of X G a_BadName,
      x_BadName := ⟨ga_BadName, gg_BadName, ex_BadName, hd_BadName⟩,
      isa_BadName := (isa_cons (exm_of ex_BadName ic_BadName ty_BadName su_CoinsError_BadName) (by decide) (isa_cons (exm_of ex_BadName ic_BadName ty_BadName su_BadNumber_BadName) (by decide) (isa_cons (exm_of ex_BadName ic_BadName ty_BadName su_BadName_BadName) (by decide) (isa_cons (exm_of ex_BadName ic_BadName ty_BadName su_BadItem_BadName) (by decide) (isa_cons (exm_of ex_BadName ic_BadName ty_BadName su_BadEvent_BadName) (by decide) (isa_cons (exm_of ex_BadName ic_BadName ty_BadName su_BadNote_BadName) (by decide) (isa_cons (exm_of ex_BadName ic_BadName ty_BadName su_TooMany_BadName) (by decide) (isa_cons (exm_of ex_BadName ic_BadName ty_BadName su_Unknown_BadName) (by decide) (isa_cons (exm_of ex_BadName ic_BadName ty_BadName su_Taken_BadName) (by decide) (isa_cons (exm_of ex_BadName ic_BadName ty_BadName su_Refused_BadName) (by decide) (isa_cons (exm_of ex_BadName ic_BadName ty_BadName su_NothingToUndo_BadName) (by decide) isa_nil))))))))))),
      gc_BadNote := PySem.W.mg_of X G a_BadNote,
      x_BadNote := ⟨ga_BadNote, gg_BadNote, ex_BadNote, hd_BadNote⟩,
      isa_BadNote := (isa_cons (exm_of ex_BadNote ic_BadNote ty_BadNote su_CoinsError_BadNote) (by decide) (isa_cons (exm_of ex_BadNote ic_BadNote ty_BadNote su_BadNumber_BadNote) (by decide) (isa_cons (exm_of ex_BadNote ic_BadNote ty_BadNote su_BadName_BadNote) (by decide) (isa_cons (exm_of ex_BadNote ic_BadNote ty_BadNote su_BadItem_BadNote) (by decide) (isa_cons (exm_of ex_BadNote ic_BadNote ty_BadNote su_BadEvent_BadNote) (by decide) (isa_cons (exm_of ex_BadNote ic_BadNote ty_BadNote su_BadNote_BadNote) (by decide) (isa_cons (exm_of ex_BadNote ic_BadNote ty_BadNote su_TooMany_BadNote) (by decide) (isa_cons (exm_of ex_BadNote ic_BadNote ty_BadNote su_Unknown_BadNote) (by decide) (isa_cons (exm_of ex_BadNote ic_BadNote ty_BadNote su_Taken_BadNote) (by decide) (isa_cons (exm_of ex_BadNote ic_BadNote ty_BadNote su_Refused_BadNote) (by decide) (isa_cons (exm_of ex_BadNote ic_BadNote ty_BadNote su_NothingToUndo_BadNote) (by decide) isa_nil))))))))))),
      gc_BadNumber := PySem.W.mg_of X G a_BadNumber,
      x_BadNumber := ⟨ga_BadNumber, gg_BadNumber, ex_BadNumber, hd_BadNumber⟩,
      isa_BadNumber := (isa_cons (exm_of ex_BadNumber ic_BadNumber ty_BadNumber su_CoinsError_BadNumber) (by decide) (isa_cons (exm_of ex_BadNumber ic_BadNumber ty_BadNumber su_BadNumber_BadNumber) (by decide) (isa_cons (exm_of ex_BadNumber ic_BadNumber ty_BadNumber su_BadName_BadNumber) (by decide) (isa_cons (exm_of ex_BadNumber ic_BadNumber ty_BadNumber su_BadItem_BadNumber) (by decide) (isa_cons (exm_of ex_BadNumber ic_BadNumber ty_BadNumber su_BadEvent_BadNumber) (by decide) (isa_cons (exm_of ex_BadNumber ic_BadNumber ty_BadNumber su_BadNote_BadNumber) (by decide) (isa_cons (exm_of ex_BadNumber ic_BadNumber ty_BadNumber su_TooMany_BadNumber) (by decide) (isa_cons (exm_of ex_BadNumber ic_BadNumber ty_BadNumber su_Unknown_BadNumber) (by decide) (isa_cons (exm_of ex_BadNumber ic_BadNumber ty_BadNumber su_Taken_BadNumber) (by decide) (isa_cons (exm_of ex_BadNumber ic_BadNumber ty_BadNumber su_Refused_BadNumber) (by decide) (isa_cons (exm_of ex_BadNumber ic_BadNumber ty_BadNumber su_NothingToUndo_BadNumber) (by decide) isa_nil))))))))))),
      gc_CoinsError := PySem.W.mg_of X G a_CoinsError,
      x_CoinsError := ⟨ga_CoinsError, gg_CoinsError, ex_CoinsError, hd_CoinsError⟩,
      isa_CoinsError := (isa_cons (exm_of ex_CoinsError ic_CoinsError ty_CoinsError su_CoinsError_CoinsError) (by decide) (isa_cons (exm_of ex_CoinsError ic_CoinsError ty_CoinsError su_BadNumber_CoinsError) (by decide) (isa_cons (exm_of ex_CoinsError ic_CoinsError ty_CoinsError su_BadName_CoinsError) (by decide) (isa_cons (exm_of ex_CoinsError ic_CoinsError ty_CoinsError su_BadItem_CoinsError) (by decide) (isa_cons (exm_of ex_CoinsError ic_CoinsError ty_CoinsError su_BadEvent_CoinsError) (by decide) (isa_cons (exm_of ex_CoinsError ic_CoinsError ty_CoinsError su_BadNote_CoinsError) (by decide) (isa_cons (exm_of ex_CoinsError ic_CoinsError ty_CoinsError su_TooMany_CoinsError) (by decide) (isa_cons (exm_of ex_CoinsError ic_CoinsError ty_CoinsError su_Unknown_CoinsError) (by decide) (isa_cons (exm_of ex_CoinsError ic_CoinsError ty_CoinsError su_Taken_CoinsError) (by decide) (isa_cons (exm_of ex_CoinsError ic_CoinsError ty_CoinsError su_Refused_CoinsError) (by decide) (isa_cons (exm_of ex_CoinsError ic_CoinsError ty_CoinsError su_NothingToUndo_CoinsError) (by decide) isa_nil))))))))))),
      gc_NothingToUndo := PySem.W.mg_of X G a_NothingToUndo,
      x_NothingToUndo := ⟨ga_NothingToUndo, gg_NothingToUndo, ex_NothingToUndo, hd_NothingToUndo⟩,
      isa_NothingToUndo := (isa_cons (exm_of ex_NothingToUndo ic_NothingToUndo ty_NothingToUndo su_CoinsError_NothingToUndo) (by decide) (isa_cons (exm_of ex_NothingToUndo ic_NothingToUndo ty_NothingToUndo su_BadNumber_NothingToUndo) (by decide) (isa_cons (exm_of ex_NothingToUndo ic_NothingToUndo ty_NothingToUndo su_BadName_NothingToUndo) (by decide) (isa_cons (exm_of ex_NothingToUndo ic_NothingToUndo ty_NothingToUndo su_BadItem_NothingToUndo) (by decide) (isa_cons (exm_of ex_NothingToUndo ic_NothingToUndo ty_NothingToUndo su_BadEvent_NothingToUndo) (by decide) (isa_cons (exm_of ex_NothingToUndo ic_NothingToUndo ty_NothingToUndo su_BadNote_NothingToUndo) (by decide) (isa_cons (exm_of ex_NothingToUndo ic_NothingToUndo ty_NothingToUndo su_TooMany_NothingToUndo) (by decide) (isa_cons (exm_of ex_NothingToUndo ic_NothingToUndo ty_NothingToUndo su_Unknown_NothingToUndo) (by decide) (isa_cons (exm_of ex_NothingToUndo ic_NothingToUndo ty_NothingToUndo su_Taken_NothingToUndo) (by decide) (isa_cons (exm_of ex_NothingToUndo ic_NothingToUndo ty_NothingToUndo su_Refused_NothingToUndo) (by decide) (isa_cons (exm_of ex_NothingToUndo ic_NothingToUndo ty_NothingToUndo su_NothingToUndo_NothingToUndo) (by decide) isa_nil))))))))))),
      gc_Refused := PySem.W.mg_of X G a_Refused,
      x_Refused := ⟨ga_Refused, gg_Refused, ex_Refused, hd_Refused⟩,
      isa_Refused := (isa_cons (exm_of ex_Refused ic_Refused ty_Refused su_CoinsError_Refused) (by decide) (isa_cons (exm_of ex_Refused ic_Refused ty_Refused su_BadNumber_Refused) (by decide) (isa_cons (exm_of ex_Refused ic_Refused ty_Refused su_BadName_Refused) (by decide) (isa_cons (exm_of ex_Refused ic_Refused ty_Refused su_BadItem_Refused) (by decide) (isa_cons (exm_of ex_Refused ic_Refused ty_Refused su_BadEvent_Refused) (by decide) (isa_cons (exm_of ex_Refused ic_Refused ty_Refused su_BadNote_Refused) (by decide) (isa_cons (exm_of ex_Refused ic_Refused ty_Refused su_TooMany_Refused) (by decide) (isa_cons (exm_of ex_Refused ic_Refused ty_Refused su_Unknown_Refused) (by decide) (isa_cons (exm_of ex_Refused ic_Refused ty_Refused su_Taken_Refused) (by decide) (isa_cons (exm_of ex_Refused ic_Refused ty_Refused su_Refused_Refused) (by decide) (isa_cons (exm_of ex_Refused ic_Refused ty_Refused su_NothingToUndo_Refused) (by decide) isa_nil))))))))))),
      gc_Taken := PySem.W.mg_of X G a_Taken,
      x_Taken := ⟨ga_Taken, gg_Taken, ex_Taken, hd_Taken⟩,
      isa_Taken := (isa_cons (exm_of ex_Taken ic_Taken ty_Taken su_CoinsError_Taken) (by decide) (isa_cons (exm_of ex_Taken ic_Taken ty_Taken su_BadNumber_Taken) (by decide) (isa_cons (exm_of ex_Taken ic_Taken ty_Taken su_BadName_Taken) (by decide) (isa_cons (exm_of ex_Taken ic_Taken ty_Taken su_BadItem_Taken) (by decide) (isa_cons (exm_of ex_Taken ic_Taken ty_Taken su_BadEvent_Taken) (by decide) (isa_cons (exm_of ex_Taken ic_Taken ty_Taken su_BadNote_Taken) (by decide) (isa_cons (exm_of ex_Taken ic_Taken ty_Taken su_TooMany_Taken) (by decide) (isa_cons (exm_of ex_Taken ic_Taken ty_Taken su_Unknown_Taken) (by decide) (isa_cons (exm_of ex_Taken ic_Taken ty_Taken su_Taken_Taken) (by decide) (isa_cons (exm_of ex_Taken ic_Taken ty_Taken su_Refused_Taken) (by decide) (isa_cons (exm_of ex_Taken ic_Taken ty_Taken su_NothingToUndo_Taken) (by decide) isa_nil))))))))))),
      gc_TooMany := PySem.W.mg_of X G a_TooMany,
      x_TooMany := ⟨ga_TooMany, gg_TooMany, ex_TooMany, hd_TooMany⟩,
      isa_TooMany := (isa_cons (exm_of ex_TooMany ic_TooMany ty_TooMany su_CoinsError_TooMany) (by decide) (isa_cons (exm_of ex_TooMany ic_TooMany ty_TooMany su_BadNumber_TooMany) (by decide) (isa_cons (exm_of ex_TooMany ic_TooMany ty_TooMany su_BadName_TooMany) (by decide) (isa_cons (exm_of ex_TooMany ic_TooMany ty_TooMany su_BadItem_TooMany) (by decide) (isa_cons (exm_of ex_TooMany ic_TooMany ty_TooMany su_BadEvent_TooMany) (by decide) (isa_cons (exm_of ex_TooMany ic_TooMany ty_TooMany su_BadNote_TooMany) (by decide) (isa_cons (exm_of ex_TooMany ic_TooMany ty_TooMany su_TooMany_TooMany) (by decide) (isa_cons (exm_of ex_TooMany ic_TooMany ty_TooMany su_Unknown_TooMany) (by decide) (isa_cons (exm_of ex_TooMany ic_TooMany ty_TooMany su_Taken_TooMany) (by decide) (isa_cons (exm_of ex_TooMany ic_TooMany ty_TooMany su_Refused_TooMany) (by decide) (isa_cons (exm_of ex_TooMany ic_TooMany ty_TooMany su_NothingToUndo_TooMany) (by decide) isa_nil))))))))))),
      gc_Unknown := PySem.W.mg_of X G a_Unknown,
      x_Unknown := ⟨ga_Unknown, gg_Unknown, ex_Unknown, hd_Unknown⟩,
      isa_Unknown := (isa_cons (exm_of ex_Unknown ic_Unknown ty_Unknown su_CoinsError_Unknown) (by decide) (isa_cons (exm_of ex_Unknown ic_Unknown ty_Unknown su_BadNumber_Unknown) (by decide) (isa_cons (exm_of ex_Unknown ic_Unknown ty_Unknown su_BadName_Unknown) (by decide) (isa_cons (exm_of ex_Unknown ic_Unknown ty_Unknown su_BadItem_Unknown) (by decide) (isa_cons (exm_of ex_Unknown ic_Unknown ty_Unknown su_BadEvent_Unknown) (by decide) (isa_cons (exm_of ex_Unknown ic_Unknown ty_Unknown su_BadNote_Unknown) (by decide) (isa_cons (exm_of ex_Unknown ic_Unknown ty_Unknown su_TooMany_Unknown) (by decide) (isa_cons (exm_of ex_Unknown ic_Unknown ty_Unknown su_Unknown_Unknown) (by decide) (isa_cons (exm_of ex_Unknown ic_Unknown ty_Unknown su_Taken_Unknown) (by decide) (isa_cons (exm_of ex_Unknown ic_Unknown ty_Unknown su_Refused_Unknown) (by decide) (isa_cons (exm_of ex_Unknown ic_Unknown ty_Unknown su_NothingToUndo_Unknown) (by decide) isa_nil))))))))))),
      z_NothingToUndo := z_NothingToUndo,
      kc_NothingToUndo := kc_NothingToUndo,
      ex_NothingToUndo := ex_NothingToUndo,
      ty_NothingToUndo := ty_NothingToUndo,
      ik_BadEvent := (isk_cons ⟨ga_CoinsError, gg_CoinsError, ex_CoinsError, hd_CoinsError, ca_CoinsError, gn, gt, mo_CoinsError⟩ ko_CoinsError_BadEvent (isk_cons ⟨ga_BadNumber, gg_BadNumber, ex_BadNumber, hd_BadNumber, ca_BadNumber, gn, gt, mo_BadNumber⟩ ko_BadNumber_BadEvent (isk_cons ⟨ga_BadName, gg_BadName, ex_BadName, hd_BadName, ca_BadName, gn, gt, mo_BadName⟩ ko_BadName_BadEvent (isk_cons ⟨ga_BadItem, gg_BadItem, ex_BadItem, hd_BadItem, ca_BadItem, gn, gt, mo_BadItem⟩ ko_BadItem_BadEvent (isk_cons ⟨ga_BadEvent, gg_BadEvent, ex_BadEvent, hd_BadEvent, ca_BadEvent, gn, gt, mo_BadEvent⟩ ko_BadEvent_BadEvent (isk_cons ⟨ga_BadNote, gg_BadNote, ex_BadNote, hd_BadNote, ca_BadNote, gn, gt, mo_BadNote⟩ ko_BadNote_BadEvent (isk_cons ⟨ga_TooMany, gg_TooMany, ex_TooMany, hd_TooMany, ca_TooMany, gn, gt, mo_TooMany⟩ ko_TooMany_BadEvent (isk_cons ⟨ga_Unknown, gg_Unknown, ex_Unknown, hd_Unknown, ca_Unknown, gn, gt, mo_Unknown⟩ ko_Unknown_BadEvent (isk_cons ⟨ga_Taken, gg_Taken, ex_Taken, hd_Taken, ca_Taken, gn, gt, mo_Taken⟩ ko_Taken_BadEvent (isk_cons ⟨ga_Refused, gg_Refused, ex_Refused, hd_Refused, ca_Refused, gn, gt, mo_Refused⟩ ko_Refused_BadEvent (isk_cons ⟨ga_NothingToUndo, gg_NothingToUndo, ex_NothingToUndo, hd_NothingToUndo, ca_NothingToUndo, gn, gt, mo_NothingToUndo⟩ ko_NothingToUndo_BadEvent isk_nil))))))))))),
      ik_BadItem := (isk_cons ⟨ga_CoinsError, gg_CoinsError, ex_CoinsError, hd_CoinsError, ca_CoinsError, gn, gt, mo_CoinsError⟩ ko_CoinsError_BadItem (isk_cons ⟨ga_BadNumber, gg_BadNumber, ex_BadNumber, hd_BadNumber, ca_BadNumber, gn, gt, mo_BadNumber⟩ ko_BadNumber_BadItem (isk_cons ⟨ga_BadName, gg_BadName, ex_BadName, hd_BadName, ca_BadName, gn, gt, mo_BadName⟩ ko_BadName_BadItem (isk_cons ⟨ga_BadItem, gg_BadItem, ex_BadItem, hd_BadItem, ca_BadItem, gn, gt, mo_BadItem⟩ ko_BadItem_BadItem (isk_cons ⟨ga_BadEvent, gg_BadEvent, ex_BadEvent, hd_BadEvent, ca_BadEvent, gn, gt, mo_BadEvent⟩ ko_BadEvent_BadItem (isk_cons ⟨ga_BadNote, gg_BadNote, ex_BadNote, hd_BadNote, ca_BadNote, gn, gt, mo_BadNote⟩ ko_BadNote_BadItem (isk_cons ⟨ga_TooMany, gg_TooMany, ex_TooMany, hd_TooMany, ca_TooMany, gn, gt, mo_TooMany⟩ ko_TooMany_BadItem (isk_cons ⟨ga_Unknown, gg_Unknown, ex_Unknown, hd_Unknown, ca_Unknown, gn, gt, mo_Unknown⟩ ko_Unknown_BadItem (isk_cons ⟨ga_Taken, gg_Taken, ex_Taken, hd_Taken, ca_Taken, gn, gt, mo_Taken⟩ ko_Taken_BadItem (isk_cons ⟨ga_Refused, gg_Refused, ex_Refused, hd_Refused, ca_Refused, gn, gt, mo_Refused⟩ ko_Refused_BadItem (isk_cons ⟨ga_NothingToUndo, gg_NothingToUndo, ex_NothingToUndo, hd_NothingToUndo, ca_NothingToUndo, gn, gt, mo_NothingToUndo⟩ ko_NothingToUndo_BadItem isk_nil))))))))))),
      ik_BadName := (isk_cons ⟨ga_CoinsError, gg_CoinsError, ex_CoinsError, hd_CoinsError, ca_CoinsError, gn, gt, mo_CoinsError⟩ ko_CoinsError_BadName (isk_cons ⟨ga_BadNumber, gg_BadNumber, ex_BadNumber, hd_BadNumber, ca_BadNumber, gn, gt, mo_BadNumber⟩ ko_BadNumber_BadName (isk_cons ⟨ga_BadName, gg_BadName, ex_BadName, hd_BadName, ca_BadName, gn, gt, mo_BadName⟩ ko_BadName_BadName (isk_cons ⟨ga_BadItem, gg_BadItem, ex_BadItem, hd_BadItem, ca_BadItem, gn, gt, mo_BadItem⟩ ko_BadItem_BadName (isk_cons ⟨ga_BadEvent, gg_BadEvent, ex_BadEvent, hd_BadEvent, ca_BadEvent, gn, gt, mo_BadEvent⟩ ko_BadEvent_BadName (isk_cons ⟨ga_BadNote, gg_BadNote, ex_BadNote, hd_BadNote, ca_BadNote, gn, gt, mo_BadNote⟩ ko_BadNote_BadName (isk_cons ⟨ga_TooMany, gg_TooMany, ex_TooMany, hd_TooMany, ca_TooMany, gn, gt, mo_TooMany⟩ ko_TooMany_BadName (isk_cons ⟨ga_Unknown, gg_Unknown, ex_Unknown, hd_Unknown, ca_Unknown, gn, gt, mo_Unknown⟩ ko_Unknown_BadName (isk_cons ⟨ga_Taken, gg_Taken, ex_Taken, hd_Taken, ca_Taken, gn, gt, mo_Taken⟩ ko_Taken_BadName (isk_cons ⟨ga_Refused, gg_Refused, ex_Refused, hd_Refused, ca_Refused, gn, gt, mo_Refused⟩ ko_Refused_BadName (isk_cons ⟨ga_NothingToUndo, gg_NothingToUndo, ex_NothingToUndo, hd_NothingToUndo, ca_NothingToUndo, gn, gt, mo_NothingToUndo⟩ ko_NothingToUndo_BadName isk_nil))))))))))),
      ik_BadNote := (isk_cons ⟨ga_CoinsError, gg_CoinsError, ex_CoinsError, hd_CoinsError, ca_CoinsError, gn, gt, mo_CoinsError⟩ ko_CoinsError_BadNote (isk_cons ⟨ga_BadNumber, gg_BadNumber, ex_BadNumber, hd_BadNumber, ca_BadNumber, gn, gt, mo_BadNumber⟩ ko_BadNumber_BadNote (isk_cons ⟨ga_BadName, gg_BadName, ex_BadName, hd_BadName, ca_BadName, gn, gt, mo_BadName⟩ ko_BadName_BadNote (isk_cons ⟨ga_BadItem, gg_BadItem, ex_BadItem, hd_BadItem, ca_BadItem, gn, gt, mo_BadItem⟩ ko_BadItem_BadNote (isk_cons ⟨ga_BadEvent, gg_BadEvent, ex_BadEvent, hd_BadEvent, ca_BadEvent, gn, gt, mo_BadEvent⟩ ko_BadEvent_BadNote (isk_cons ⟨ga_BadNote, gg_BadNote, ex_BadNote, hd_BadNote, ca_BadNote, gn, gt, mo_BadNote⟩ ko_BadNote_BadNote (isk_cons ⟨ga_TooMany, gg_TooMany, ex_TooMany, hd_TooMany, ca_TooMany, gn, gt, mo_TooMany⟩ ko_TooMany_BadNote (isk_cons ⟨ga_Unknown, gg_Unknown, ex_Unknown, hd_Unknown, ca_Unknown, gn, gt, mo_Unknown⟩ ko_Unknown_BadNote (isk_cons ⟨ga_Taken, gg_Taken, ex_Taken, hd_Taken, ca_Taken, gn, gt, mo_Taken⟩ ko_Taken_BadNote (isk_cons ⟨ga_Refused, gg_Refused, ex_Refused, hd_Refused, ca_Refused, gn, gt, mo_Refused⟩ ko_Refused_BadNote (isk_cons ⟨ga_NothingToUndo, gg_NothingToUndo, ex_NothingToUndo, hd_NothingToUndo, ca_NothingToUndo, gn, gt, mo_NothingToUndo⟩ ko_NothingToUndo_BadNote isk_nil))))))))))),
      ik_BadNumber := (isk_cons ⟨ga_CoinsError, gg_CoinsError, ex_CoinsError, hd_CoinsError, ca_CoinsError, gn, gt, mo_CoinsError⟩ ko_CoinsError_BadNumber (isk_cons ⟨ga_BadNumber, gg_BadNumber, ex_BadNumber, hd_BadNumber, ca_BadNumber, gn, gt, mo_BadNumber⟩ ko_BadNumber_BadNumber (isk_cons ⟨ga_BadName, gg_BadName, ex_BadName, hd_BadName, ca_BadName, gn, gt, mo_BadName⟩ ko_BadName_BadNumber (isk_cons ⟨ga_BadItem, gg_BadItem, ex_BadItem, hd_BadItem, ca_BadItem, gn, gt, mo_BadItem⟩ ko_BadItem_BadNumber (isk_cons ⟨ga_BadEvent, gg_BadEvent, ex_BadEvent, hd_BadEvent, ca_BadEvent, gn, gt, mo_BadEvent⟩ ko_BadEvent_BadNumber (isk_cons ⟨ga_BadNote, gg_BadNote, ex_BadNote, hd_BadNote, ca_BadNote, gn, gt, mo_BadNote⟩ ko_BadNote_BadNumber (isk_cons ⟨ga_TooMany, gg_TooMany, ex_TooMany, hd_TooMany, ca_TooMany, gn, gt, mo_TooMany⟩ ko_TooMany_BadNumber (isk_cons ⟨ga_Unknown, gg_Unknown, ex_Unknown, hd_Unknown, ca_Unknown, gn, gt, mo_Unknown⟩ ko_Unknown_BadNumber (isk_cons ⟨ga_Taken, gg_Taken, ex_Taken, hd_Taken, ca_Taken, gn, gt, mo_Taken⟩ ko_Taken_BadNumber (isk_cons ⟨ga_Refused, gg_Refused, ex_Refused, hd_Refused, ca_Refused, gn, gt, mo_Refused⟩ ko_Refused_BadNumber (isk_cons ⟨ga_NothingToUndo, gg_NothingToUndo, ex_NothingToUndo, hd_NothingToUndo, ca_NothingToUndo, gn, gt, mo_NothingToUndo⟩ ko_NothingToUndo_BadNumber isk_nil))))))))))),
      ik_LookupError := (isk_cons ⟨ga_CoinsError, gg_CoinsError, ex_CoinsError, hd_CoinsError, ca_CoinsError, gn, gt, mo_CoinsError⟩ ko_CoinsError_LookupError (isk_cons ⟨ga_BadNumber, gg_BadNumber, ex_BadNumber, hd_BadNumber, ca_BadNumber, gn, gt, mo_BadNumber⟩ ko_BadNumber_LookupError (isk_cons ⟨ga_BadName, gg_BadName, ex_BadName, hd_BadName, ca_BadName, gn, gt, mo_BadName⟩ ko_BadName_LookupError (isk_cons ⟨ga_BadItem, gg_BadItem, ex_BadItem, hd_BadItem, ca_BadItem, gn, gt, mo_BadItem⟩ ko_BadItem_LookupError (isk_cons ⟨ga_BadEvent, gg_BadEvent, ex_BadEvent, hd_BadEvent, ca_BadEvent, gn, gt, mo_BadEvent⟩ ko_BadEvent_LookupError (isk_cons ⟨ga_BadNote, gg_BadNote, ex_BadNote, hd_BadNote, ca_BadNote, gn, gt, mo_BadNote⟩ ko_BadNote_LookupError (isk_cons ⟨ga_TooMany, gg_TooMany, ex_TooMany, hd_TooMany, ca_TooMany, gn, gt, mo_TooMany⟩ ko_TooMany_LookupError (isk_cons ⟨ga_Unknown, gg_Unknown, ex_Unknown, hd_Unknown, ca_Unknown, gn, gt, mo_Unknown⟩ ko_Unknown_LookupError (isk_cons ⟨ga_Taken, gg_Taken, ex_Taken, hd_Taken, ca_Taken, gn, gt, mo_Taken⟩ ko_Taken_LookupError (isk_cons ⟨ga_Refused, gg_Refused, ex_Refused, hd_Refused, ca_Refused, gn, gt, mo_Refused⟩ ko_Refused_LookupError (isk_cons ⟨ga_NothingToUndo, gg_NothingToUndo, ex_NothingToUndo, hd_NothingToUndo, ca_NothingToUndo, gn, gt, mo_NothingToUndo⟩ ko_NothingToUndo_LookupError isk_nil))))))))))),
      ik_NothingToUndo := (isk_cons ⟨ga_CoinsError, gg_CoinsError, ex_CoinsError, hd_CoinsError, ca_CoinsError, gn, gt, mo_CoinsError⟩ ko_CoinsError_NothingToUndo (isk_cons ⟨ga_BadNumber, gg_BadNumber, ex_BadNumber, hd_BadNumber, ca_BadNumber, gn, gt, mo_BadNumber⟩ ko_BadNumber_NothingToUndo (isk_cons ⟨ga_BadName, gg_BadName, ex_BadName, hd_BadName, ca_BadName, gn, gt, mo_BadName⟩ ko_BadName_NothingToUndo (isk_cons ⟨ga_BadItem, gg_BadItem, ex_BadItem, hd_BadItem, ca_BadItem, gn, gt, mo_BadItem⟩ ko_BadItem_NothingToUndo (isk_cons ⟨ga_BadEvent, gg_BadEvent, ex_BadEvent, hd_BadEvent, ca_BadEvent, gn, gt, mo_BadEvent⟩ ko_BadEvent_NothingToUndo (isk_cons ⟨ga_BadNote, gg_BadNote, ex_BadNote, hd_BadNote, ca_BadNote, gn, gt, mo_BadNote⟩ ko_BadNote_NothingToUndo (isk_cons ⟨ga_TooMany, gg_TooMany, ex_TooMany, hd_TooMany, ca_TooMany, gn, gt, mo_TooMany⟩ ko_TooMany_NothingToUndo (isk_cons ⟨ga_Unknown, gg_Unknown, ex_Unknown, hd_Unknown, ca_Unknown, gn, gt, mo_Unknown⟩ ko_Unknown_NothingToUndo (isk_cons ⟨ga_Taken, gg_Taken, ex_Taken, hd_Taken, ca_Taken, gn, gt, mo_Taken⟩ ko_Taken_NothingToUndo (isk_cons ⟨ga_Refused, gg_Refused, ex_Refused, hd_Refused, ca_Refused, gn, gt, mo_Refused⟩ ko_Refused_NothingToUndo (isk_cons ⟨ga_NothingToUndo, gg_NothingToUndo, ex_NothingToUndo, hd_NothingToUndo, ca_NothingToUndo, gn, gt, mo_NothingToUndo⟩ ko_NothingToUndo_NothingToUndo isk_nil))))))))))),
      ik_Refused := (isk_cons ⟨ga_CoinsError, gg_CoinsError, ex_CoinsError, hd_CoinsError, ca_CoinsError, gn, gt, mo_CoinsError⟩ ko_CoinsError_Refused (isk_cons ⟨ga_BadNumber, gg_BadNumber, ex_BadNumber, hd_BadNumber, ca_BadNumber, gn, gt, mo_BadNumber⟩ ko_BadNumber_Refused (isk_cons ⟨ga_BadName, gg_BadName, ex_BadName, hd_BadName, ca_BadName, gn, gt, mo_BadName⟩ ko_BadName_Refused (isk_cons ⟨ga_BadItem, gg_BadItem, ex_BadItem, hd_BadItem, ca_BadItem, gn, gt, mo_BadItem⟩ ko_BadItem_Refused (isk_cons ⟨ga_BadEvent, gg_BadEvent, ex_BadEvent, hd_BadEvent, ca_BadEvent, gn, gt, mo_BadEvent⟩ ko_BadEvent_Refused (isk_cons ⟨ga_BadNote, gg_BadNote, ex_BadNote, hd_BadNote, ca_BadNote, gn, gt, mo_BadNote⟩ ko_BadNote_Refused (isk_cons ⟨ga_TooMany, gg_TooMany, ex_TooMany, hd_TooMany, ca_TooMany, gn, gt, mo_TooMany⟩ ko_TooMany_Refused (isk_cons ⟨ga_Unknown, gg_Unknown, ex_Unknown, hd_Unknown, ca_Unknown, gn, gt, mo_Unknown⟩ ko_Unknown_Refused (isk_cons ⟨ga_Taken, gg_Taken, ex_Taken, hd_Taken, ca_Taken, gn, gt, mo_Taken⟩ ko_Taken_Refused (isk_cons ⟨ga_Refused, gg_Refused, ex_Refused, hd_Refused, ca_Refused, gn, gt, mo_Refused⟩ ko_Refused_Refused (isk_cons ⟨ga_NothingToUndo, gg_NothingToUndo, ex_NothingToUndo, hd_NothingToUndo, ca_NothingToUndo, gn, gt, mo_NothingToUndo⟩ ko_NothingToUndo_Refused isk_nil))))))))))),
      ik_RuntimeError := (isk_cons ⟨ga_CoinsError, gg_CoinsError, ex_CoinsError, hd_CoinsError, ca_CoinsError, gn, gt, mo_CoinsError⟩ ko_CoinsError_RuntimeError (isk_cons ⟨ga_BadNumber, gg_BadNumber, ex_BadNumber, hd_BadNumber, ca_BadNumber, gn, gt, mo_BadNumber⟩ ko_BadNumber_RuntimeError (isk_cons ⟨ga_BadName, gg_BadName, ex_BadName, hd_BadName, ca_BadName, gn, gt, mo_BadName⟩ ko_BadName_RuntimeError (isk_cons ⟨ga_BadItem, gg_BadItem, ex_BadItem, hd_BadItem, ca_BadItem, gn, gt, mo_BadItem⟩ ko_BadItem_RuntimeError (isk_cons ⟨ga_BadEvent, gg_BadEvent, ex_BadEvent, hd_BadEvent, ca_BadEvent, gn, gt, mo_BadEvent⟩ ko_BadEvent_RuntimeError (isk_cons ⟨ga_BadNote, gg_BadNote, ex_BadNote, hd_BadNote, ca_BadNote, gn, gt, mo_BadNote⟩ ko_BadNote_RuntimeError (isk_cons ⟨ga_TooMany, gg_TooMany, ex_TooMany, hd_TooMany, ca_TooMany, gn, gt, mo_TooMany⟩ ko_TooMany_RuntimeError (isk_cons ⟨ga_Unknown, gg_Unknown, ex_Unknown, hd_Unknown, ca_Unknown, gn, gt, mo_Unknown⟩ ko_Unknown_RuntimeError (isk_cons ⟨ga_Taken, gg_Taken, ex_Taken, hd_Taken, ca_Taken, gn, gt, mo_Taken⟩ ko_Taken_RuntimeError (isk_cons ⟨ga_Refused, gg_Refused, ex_Refused, hd_Refused, ca_Refused, gn, gt, mo_Refused⟩ ko_Refused_RuntimeError (isk_cons ⟨ga_NothingToUndo, gg_NothingToUndo, ex_NothingToUndo, hd_NothingToUndo, ca_NothingToUndo, gn, gt, mo_NothingToUndo⟩ ko_NothingToUndo_RuntimeError isk_nil))))))))))),
      ik_Taken := (isk_cons ⟨ga_CoinsError, gg_CoinsError, ex_CoinsError, hd_CoinsError, ca_CoinsError, gn, gt, mo_CoinsError⟩ ko_CoinsError_Taken (isk_cons ⟨ga_BadNumber, gg_BadNumber, ex_BadNumber, hd_BadNumber, ca_BadNumber, gn, gt, mo_BadNumber⟩ ko_BadNumber_Taken (isk_cons ⟨ga_BadName, gg_BadName, ex_BadName, hd_BadName, ca_BadName, gn, gt, mo_BadName⟩ ko_BadName_Taken (isk_cons ⟨ga_BadItem, gg_BadItem, ex_BadItem, hd_BadItem, ca_BadItem, gn, gt, mo_BadItem⟩ ko_BadItem_Taken (isk_cons ⟨ga_BadEvent, gg_BadEvent, ex_BadEvent, hd_BadEvent, ca_BadEvent, gn, gt, mo_BadEvent⟩ ko_BadEvent_Taken (isk_cons ⟨ga_BadNote, gg_BadNote, ex_BadNote, hd_BadNote, ca_BadNote, gn, gt, mo_BadNote⟩ ko_BadNote_Taken (isk_cons ⟨ga_TooMany, gg_TooMany, ex_TooMany, hd_TooMany, ca_TooMany, gn, gt, mo_TooMany⟩ ko_TooMany_Taken (isk_cons ⟨ga_Unknown, gg_Unknown, ex_Unknown, hd_Unknown, ca_Unknown, gn, gt, mo_Unknown⟩ ko_Unknown_Taken (isk_cons ⟨ga_Taken, gg_Taken, ex_Taken, hd_Taken, ca_Taken, gn, gt, mo_Taken⟩ ko_Taken_Taken (isk_cons ⟨ga_Refused, gg_Refused, ex_Refused, hd_Refused, ca_Refused, gn, gt, mo_Refused⟩ ko_Refused_Taken (isk_cons ⟨ga_NothingToUndo, gg_NothingToUndo, ex_NothingToUndo, hd_NothingToUndo, ca_NothingToUndo, gn, gt, mo_NothingToUndo⟩ ko_NothingToUndo_Taken isk_nil))))))))))),
      ik_TooMany := (isk_cons ⟨ga_CoinsError, gg_CoinsError, ex_CoinsError, hd_CoinsError, ca_CoinsError, gn, gt, mo_CoinsError⟩ ko_CoinsError_TooMany (isk_cons ⟨ga_BadNumber, gg_BadNumber, ex_BadNumber, hd_BadNumber, ca_BadNumber, gn, gt, mo_BadNumber⟩ ko_BadNumber_TooMany (isk_cons ⟨ga_BadName, gg_BadName, ex_BadName, hd_BadName, ca_BadName, gn, gt, mo_BadName⟩ ko_BadName_TooMany (isk_cons ⟨ga_BadItem, gg_BadItem, ex_BadItem, hd_BadItem, ca_BadItem, gn, gt, mo_BadItem⟩ ko_BadItem_TooMany (isk_cons ⟨ga_BadEvent, gg_BadEvent, ex_BadEvent, hd_BadEvent, ca_BadEvent, gn, gt, mo_BadEvent⟩ ko_BadEvent_TooMany (isk_cons ⟨ga_BadNote, gg_BadNote, ex_BadNote, hd_BadNote, ca_BadNote, gn, gt, mo_BadNote⟩ ko_BadNote_TooMany (isk_cons ⟨ga_TooMany, gg_TooMany, ex_TooMany, hd_TooMany, ca_TooMany, gn, gt, mo_TooMany⟩ ko_TooMany_TooMany (isk_cons ⟨ga_Unknown, gg_Unknown, ex_Unknown, hd_Unknown, ca_Unknown, gn, gt, mo_Unknown⟩ ko_Unknown_TooMany (isk_cons ⟨ga_Taken, gg_Taken, ex_Taken, hd_Taken, ca_Taken, gn, gt, mo_Taken⟩ ko_Taken_TooMany (isk_cons ⟨ga_Refused, gg_Refused, ex_Refused, hd_Refused, ca_Refused, gn, gt, mo_Refused⟩ ko_Refused_TooMany (isk_cons ⟨ga_NothingToUndo, gg_NothingToUndo, ex_NothingToUndo, hd_NothingToUndo, ca_NothingToUndo, gn, gt, mo_NothingToUndo⟩ ko_NothingToUndo_TooMany isk_nil))))))))))),
      ik_Unknown := (isk_cons ⟨ga_CoinsError, gg_CoinsError, ex_CoinsError, hd_CoinsError, ca_CoinsError, gn, gt, mo_CoinsError⟩ ko_CoinsError_Unknown (isk_cons ⟨ga_BadNumber, gg_BadNumber, ex_BadNumber, hd_BadNumber, ca_BadNumber, gn, gt, mo_BadNumber⟩ ko_BadNumber_Unknown (isk_cons ⟨ga_BadName, gg_BadName, ex_BadName, hd_BadName, ca_BadName, gn, gt, mo_BadName⟩ ko_BadName_Unknown (isk_cons ⟨ga_BadItem, gg_BadItem, ex_BadItem, hd_BadItem, ca_BadItem, gn, gt, mo_BadItem⟩ ko_BadItem_Unknown (isk_cons ⟨ga_BadEvent, gg_BadEvent, ex_BadEvent, hd_BadEvent, ca_BadEvent, gn, gt, mo_BadEvent⟩ ko_BadEvent_Unknown (isk_cons ⟨ga_BadNote, gg_BadNote, ex_BadNote, hd_BadNote, ca_BadNote, gn, gt, mo_BadNote⟩ ko_BadNote_Unknown (isk_cons ⟨ga_TooMany, gg_TooMany, ex_TooMany, hd_TooMany, ca_TooMany, gn, gt, mo_TooMany⟩ ko_TooMany_Unknown (isk_cons ⟨ga_Unknown, gg_Unknown, ex_Unknown, hd_Unknown, ca_Unknown, gn, gt, mo_Unknown⟩ ko_Unknown_Unknown (isk_cons ⟨ga_Taken, gg_Taken, ex_Taken, hd_Taken, ca_Taken, gn, gt, mo_Taken⟩ ko_Taken_Unknown (isk_cons ⟨ga_Refused, gg_Refused, ex_Refused, hd_Refused, ca_Refused, gn, gt, mo_Refused⟩ ko_Refused_Unknown (isk_cons ⟨ga_NothingToUndo, gg_NothingToUndo, ex_NothingToUndo, hd_NothingToUndo, ca_NothingToUndo, gn, gt, mo_NothingToUndo⟩ ko_NothingToUndo_Unknown isk_nil))))))))))),
      ik_ValueError := (isk_cons ⟨ga_CoinsError, gg_CoinsError, ex_CoinsError, hd_CoinsError, ca_CoinsError, gn, gt, mo_CoinsError⟩ ko_CoinsError_ValueError (isk_cons ⟨ga_BadNumber, gg_BadNumber, ex_BadNumber, hd_BadNumber, ca_BadNumber, gn, gt, mo_BadNumber⟩ ko_BadNumber_ValueError (isk_cons ⟨ga_BadName, gg_BadName, ex_BadName, hd_BadName, ca_BadName, gn, gt, mo_BadName⟩ ko_BadName_ValueError (isk_cons ⟨ga_BadItem, gg_BadItem, ex_BadItem, hd_BadItem, ca_BadItem, gn, gt, mo_BadItem⟩ ko_BadItem_ValueError (isk_cons ⟨ga_BadEvent, gg_BadEvent, ex_BadEvent, hd_BadEvent, ca_BadEvent, gn, gt, mo_BadEvent⟩ ko_BadEvent_ValueError (isk_cons ⟨ga_BadNote, gg_BadNote, ex_BadNote, hd_BadNote, ca_BadNote, gn, gt, mo_BadNote⟩ ko_BadNote_ValueError (isk_cons ⟨ga_TooMany, gg_TooMany, ex_TooMany, hd_TooMany, ca_TooMany, gn, gt, mo_TooMany⟩ ko_TooMany_ValueError (isk_cons ⟨ga_Unknown, gg_Unknown, ex_Unknown, hd_Unknown, ca_Unknown, gn, gt, mo_Unknown⟩ ko_Unknown_ValueError (isk_cons ⟨ga_Taken, gg_Taken, ex_Taken, hd_Taken, ca_Taken, gn, gt, mo_Taken⟩ ko_Taken_ValueError (isk_cons ⟨ga_Refused, gg_Refused, ex_Refused, hd_Refused, ca_Refused, gn, gt, mo_Refused⟩ ko_Refused_ValueError (isk_cons ⟨ga_NothingToUndo, gg_NothingToUndo, ex_NothingToUndo, hd_NothingToUndo, ca_NothingToUndo, gn, gt, mo_NothingToUndo⟩ ko_NothingToUndo_ValueError isk_nil))))))))))),
      xf_index := (xfa_cons c_BadItem ⟨ga_BadItem, gg_BadItem, ex_BadItem, hd_BadItem⟩ no_BadItem_index xfa_nil),
      xf_limit := (xfa_cons c_TooMany ⟨ga_TooMany, gg_TooMany, ex_TooMany, hd_TooMany⟩ no_TooMany_limit xfa_nil),
      xf_line := (xfa_cons c_BadNote ⟨ga_BadNote, gg_BadNote, ex_BadNote, hd_BadNote⟩ no_BadNote_line xfa_nil),
      xf_names := (xfa_cons c_Refused ⟨ga_Refused, gg_Refused, ex_Refused, hd_Refused⟩ no_Refused_names xfa_nil),
      xf_reason := (xfa_cons c_Refused ⟨ga_Refused, gg_Refused, ex_Refused, hd_Refused⟩ no_Refused_reason xfa_nil),
      xf_value := (xfa_cons c_BadNumber ⟨ga_BadNumber, gg_BadNumber, ex_BadNumber, hd_BadNumber⟩ no_BadNumber_value (xfa_cons c_BadName ⟨ga_BadName, gg_BadName, ex_BadName, hd_BadName⟩ no_BadName_value (xfa_cons c_BadEvent ⟨ga_BadEvent, gg_BadEvent, ex_BadEvent, hd_BadEvent⟩ no_BadEvent_value (xfa_cons c_Unknown ⟨ga_Unknown, gg_Unknown, ex_Unknown, hd_Unknown⟩ no_Unknown_value (xfa_cons c_Taken ⟨ga_Taken, gg_Taken, ex_Taken, hd_Taken⟩ no_Taken_value xfa_nil))))),
      e_BadNumber := { cls := ⟨_, _, _, _, _, _, _, _, _, _, _, _, _, _, _, xl_BadNumber, by first | rfl | kernel_rfl⟩, sa := sa_BadNumber, kC := kc_BadNumber, exC := ex_BadNumber, veC := ve_BadNumber, tyC := ty_BadNumber, suC := mr_BadNumber, opq := opq, sup := PySem.W.mg_none_of X G nsup, along := al_BadNumber, code := ⟨_, _, _, _, _, _, ld_BadNumber, fi_BadNumber, fe_BadNumber⟩, cell := ⟨_, _, _, lc_BadNumber⟩, top := tp },
      i_BadNumber := { iC := ii_BadNumber, tC := ti_BadNumber, fn := ⟨_, _, _, _, _, _, _, _, li_BadNumber, ci_BadNumber⟩ },
      o_BadNumber_value := no_BadNumber_value,
      e_BadName := { cls := ⟨_, _, _, _, _, _, _, _, _, _, _, _, _, _, _, xl_BadName, by first | rfl | kernel_rfl⟩, sa := sa_BadName, kC := kc_BadName, exC := ex_BadName, veC := ve_BadName, tyC := ty_BadName, suC := mr_BadName, opq := opq, sup := PySem.W.mg_none_of X G nsup, along := al_BadName, code := ⟨_, _, _, _, _, _, ld_BadName, fi_BadName, fe_BadName⟩, cell := ⟨_, _, _, lc_BadName⟩, top := tp },
      i_BadName := { iC := ii_BadName, tC := ti_BadName, fn := ⟨_, _, _, _, _, _, _, _, li_BadName, ci_BadName⟩ },
      o_BadName_value := no_BadName_value,
      e_BadItem := { cls := ⟨_, _, _, _, _, _, _, _, _, _, _, _, _, _, _, xl_BadItem, by first | rfl | kernel_rfl⟩, sa := sa_BadItem, kC := kc_BadItem, exC := ex_BadItem, veC := ve_BadItem, tyC := ty_BadItem, suC := mr_BadItem, opq := opq, sup := PySem.W.mg_none_of X G nsup, along := al_BadItem, code := ⟨_, _, _, _, _, _, ld_BadItem, fi_BadItem, fe_BadItem⟩, cell := ⟨_, _, _, lc_BadItem⟩, top := tp },
      i_BadItem := { iC := ii_BadItem, tC := ti_BadItem, fn := ⟨_, _, _, _, _, _, _, _, li_BadItem, ci_BadItem⟩ },
      o_BadItem_index := no_BadItem_index,
      e_BadEvent := { cls := ⟨_, _, _, _, _, _, _, _, _, _, _, _, _, _, _, xl_BadEvent, by first | rfl | kernel_rfl⟩, sa := sa_BadEvent, kC := kc_BadEvent, exC := ex_BadEvent, veC := ve_BadEvent, tyC := ty_BadEvent, suC := mr_BadEvent, opq := opq, sup := PySem.W.mg_none_of X G nsup, along := al_BadEvent, code := ⟨_, _, _, _, _, _, ld_BadEvent, fi_BadEvent, fe_BadEvent⟩, cell := ⟨_, _, _, lc_BadEvent⟩, top := tp },
      i_BadEvent := { iC := ii_BadEvent, tC := ti_BadEvent, fn := ⟨_, _, _, _, _, _, _, _, li_BadEvent, ci_BadEvent⟩ },
      o_BadEvent_value := no_BadEvent_value,
      e_BadNote := { cls := ⟨_, _, _, _, _, _, _, _, _, _, _, _, _, _, _, xl_BadNote, by first | rfl | kernel_rfl⟩, sa := sa_BadNote, kC := kc_BadNote, exC := ex_BadNote, veC := ve_BadNote, tyC := ty_BadNote, suC := mr_BadNote, opq := opq, sup := PySem.W.mg_none_of X G nsup, along := al_BadNote, code := ⟨_, _, _, _, _, _, ld_BadNote, fi_BadNote, fe_BadNote⟩, cell := ⟨_, _, _, lc_BadNote⟩, top := tp },
      i_BadNote := { iC := ii_BadNote, tC := ti_BadNote, fn := ⟨_, _, _, _, _, _, _, _, li_BadNote, ci_BadNote⟩ },
      o_BadNote_line := no_BadNote_line,
      e_TooMany := { cls := ⟨_, _, _, _, _, _, _, _, _, _, _, _, _, _, _, xl_TooMany, by first | rfl | kernel_rfl⟩, sa := sa_TooMany, kC := kc_TooMany, exC := ex_TooMany, veC := ve_TooMany, tyC := ty_TooMany, suC := mr_TooMany, opq := opq, sup := PySem.W.mg_none_of X G nsup, along := al_TooMany, code := ⟨_, _, _, _, _, _, ld_TooMany, fi_TooMany, fe_TooMany⟩, cell := ⟨_, _, _, lc_TooMany⟩, top := tp },
      i_TooMany := { iC := ii_TooMany, tC := ti_TooMany, fn := ⟨_, _, _, _, _, _, _, _, li_TooMany, ci_TooMany⟩ },
      o_TooMany_limit := no_TooMany_limit,
      e_Unknown := { cls := ⟨_, _, _, _, _, _, _, _, _, _, _, _, _, _, _, xl_Unknown, by first | rfl | kernel_rfl⟩, sa := sa_Unknown, kC := kc_Unknown, exC := ex_Unknown, veC := ve_Unknown, tyC := ty_Unknown, suC := mr_Unknown, opq := opq, sup := PySem.W.mg_none_of X G nsup, along := al_Unknown, code := ⟨_, _, _, _, _, _, ld_Unknown, fi_Unknown, fe_Unknown⟩, cell := ⟨_, _, _, lc_Unknown⟩, top := tp },
      i_Unknown := { iC := ii_Unknown, tC := ti_Unknown, fn := ⟨_, _, _, _, _, _, _, _, li_Unknown, ci_Unknown⟩ },
      o_Unknown_value := no_Unknown_value,
      e_Taken := { cls := ⟨_, _, _, _, _, _, _, _, _, _, _, _, _, _, _, xl_Taken, by first | rfl | kernel_rfl⟩, sa := sa_Taken, kC := kc_Taken, exC := ex_Taken, veC := ve_Taken, tyC := ty_Taken, suC := mr_Taken, opq := opq, sup := PySem.W.mg_none_of X G nsup, along := al_Taken, code := ⟨_, _, _, _, _, _, ld_Taken, fi_Taken, fe_Taken⟩, cell := ⟨_, _, _, lc_Taken⟩, top := tp },
      i_Taken := { iC := ii_Taken, tC := ti_Taken, fn := ⟨_, _, _, _, _, _, _, _, li_Taken, ci_Taken⟩ },
      o_Taken_value := no_Taken_value,
      e_Refused := { cls := ⟨_, _, _, _, _, _, _, _, _, _, _, _, _, _, _, xl_Refused, by first | rfl | kernel_rfl⟩, sa := sa_Refused, kC := kc_Refused, exC := ex_Refused, veC := ve_Refused, tyC := ty_Refused, suC := mr_Refused, opq := opq, sup := PySem.W.mg_none_of X G nsup, along := al_Refused, code := ⟨_, _, _, _, _, _, ld_Refused, fi_Refused, fe_Refused⟩, cell := ⟨_, _, _, lc_Refused⟩, top := tp },
      i_Refused := { iC := ii_Refused, tC := ti_Refused, fn := ⟨_, _, _, _, _, _, _, _, li_Refused, ci_Refused⟩ },
      o_Refused_reason := no_Refused_reason,
      o_Refused_names := no_Refused_names }
  exact ⟨_, tc K C_CoinsError C_BadNumber C_BadName C_BadItem C_BadEvent C_BadNote C_TooMany C_Unknown C_Taken C_Refused C_NothingToUndo, rfl, fun s v => .of_eq rfl, fun base _ _ => ok_law X0⟩
end Prog
open PySem PySem.W PyProof.Rows
set_option maxHeartbeats 0 in
theorem PySem.Challenge.cw_coinspaidout_k09_errors_holds : PySem.Challenge.rw_coinspaidout_k09_errors.Holds := by
  w_on; o_law; k_head; (case hw => w_witness2)
  k_fill
  refine Mir.walk_ofM (l := PySem.Challenge.rw_coinspaidout_k09_errors) (n := 63) (k := 32) (f := Prog.m_law) (x := "script") rfl (by decide) rfl ⟨rfl, by decide, by decide⟩ (fun w h Y => PySem.W.kIn_of Y) ?F Prog.law_true
  case F =>
    intro w mg fa h KX G hmg
    refine' Prog.all_mk KX G hmg ?nb_LookupError ?nb_RuntimeError ?nb_ValueError ?nb_bool ?nb_int ?nb_isinstance ?nb_len ?nb_list ?nb_range ?nb_str ?nb_tuple ?a_CoinsError ?a_BadNumber ?a_BadName ?a_BadItem ?a_BadEvent ?a_BadNote ?a_TooMany ?a_Unknown ?a_Taken ?a_Refused ?a_NothingToUndo ?a_law_taken ?l_law_taken ?c_law_taken ?k_law_taken ?a_law_pick ?l_law_pick ?c_law_pick ?k_law_pick ?a_law_alike ?l_law_alike ?c_law_alike ?k_law_alike ?a_law_raised ?l_law_raised ?c_law_raised ?k_law_raised ?a_law ?l_law ?c_law ?k_law ?ga_BadEvent ?gg_BadEvent ?hd_BadEvent ?ic_BadEvent ?ex_BadEvent ?ty_BadEvent ?su_CoinsError_BadEvent ?su_BadNumber_BadEvent ?su_BadName_BadEvent ?su_BadItem_BadEvent ?su_BadEvent_BadEvent ?su_BadNote_BadEvent ?su_TooMany_BadEvent ?su_Unknown_BadEvent ?su_Taken_BadEvent ?su_Refused_BadEvent ?su_NothingToUndo_BadEvent ?ga_BadItem ?gg_BadItem ?hd_BadItem ?ic_BadItem ?ex_BadItem ?ty_BadItem ?su_CoinsError_BadItem ?su_BadNumber_BadItem ?su_BadName_BadItem ?su_BadItem_BadItem ?su_BadEvent_BadItem ?su_BadNote_BadItem ?su_TooMany_BadItem ?su_Unknown_BadItem ?su_Taken_BadItem ?su_Refused_BadItem ?su_NothingToUndo_BadItem ?ga_BadName ?gg_BadName ?hd_BadName ?ic_BadName ?ex_BadName ?ty_BadName ?su_CoinsError_BadName ?su_BadNumber_BadName ?su_BadName_BadName ?su_BadItem_BadName ?su_BadEvent_BadName ?su_BadNote_BadName ?su_TooMany_BadName ?su_Unknown_BadName ?su_Taken_BadName ?su_Refused_BadName ?su_NothingToUndo_BadName ?ga_BadNote ?gg_BadNote ?hd_BadNote ?ic_BadNote ?ex_BadNote ?ty_BadNote ?su_CoinsError_BadNote ?su_BadNumber_BadNote ?su_BadName_BadNote ?su_BadItem_BadNote ?su_BadEvent_BadNote ?su_BadNote_BadNote ?su_TooMany_BadNote ?su_Unknown_BadNote ?su_Taken_BadNote ?su_Refused_BadNote ?su_NothingToUndo_BadNote ?ga_BadNumber ?gg_BadNumber ?hd_BadNumber ?ic_BadNumber ?ex_BadNumber ?ty_BadNumber ?su_CoinsError_BadNumber ?su_BadNumber_BadNumber ?su_BadName_BadNumber ?su_BadItem_BadNumber ?su_BadEvent_BadNumber ?su_BadNote_BadNumber ?su_TooMany_BadNumber ?su_Unknown_BadNumber ?su_Taken_BadNumber ?su_Refused_BadNumber ?su_NothingToUndo_BadNumber ?ga_CoinsError ?gg_CoinsError ?hd_CoinsError ?ic_CoinsError ?ex_CoinsError ?ty_CoinsError ?su_CoinsError_CoinsError ?su_BadNumber_CoinsError ?su_BadName_CoinsError ?su_BadItem_CoinsError ?su_BadEvent_CoinsError ?su_BadNote_CoinsError ?su_TooMany_CoinsError ?su_Unknown_CoinsError ?su_Taken_CoinsError ?su_Refused_CoinsError ?su_NothingToUndo_CoinsError ?ga_NothingToUndo ?gg_NothingToUndo ?hd_NothingToUndo ?ic_NothingToUndo ?ex_NothingToUndo ?ty_NothingToUndo ?su_CoinsError_NothingToUndo ?su_BadNumber_NothingToUndo ?su_BadName_NothingToUndo ?su_BadItem_NothingToUndo ?su_BadEvent_NothingToUndo ?su_BadNote_NothingToUndo ?su_TooMany_NothingToUndo ?su_Unknown_NothingToUndo ?su_Taken_NothingToUndo ?su_Refused_NothingToUndo ?su_NothingToUndo_NothingToUndo ?ga_Refused ?gg_Refused ?hd_Refused ?ic_Refused ?ex_Refused ?ty_Refused ?su_CoinsError_Refused ?su_BadNumber_Refused ?su_BadName_Refused ?su_BadItem_Refused ?su_BadEvent_Refused ?su_BadNote_Refused ?su_TooMany_Refused ?su_Unknown_Refused ?su_Taken_Refused ?su_Refused_Refused ?su_NothingToUndo_Refused ?ga_Taken ?gg_Taken ?hd_Taken ?ic_Taken ?ex_Taken ?ty_Taken ?su_CoinsError_Taken ?su_BadNumber_Taken ?su_BadName_Taken ?su_BadItem_Taken ?su_BadEvent_Taken ?su_BadNote_Taken ?su_TooMany_Taken ?su_Unknown_Taken ?su_Taken_Taken ?su_Refused_Taken ?su_NothingToUndo_Taken ?ga_TooMany ?gg_TooMany ?hd_TooMany ?ic_TooMany ?ex_TooMany ?ty_TooMany ?su_CoinsError_TooMany ?su_BadNumber_TooMany ?su_BadName_TooMany ?su_BadItem_TooMany ?su_BadEvent_TooMany ?su_BadNote_TooMany ?su_TooMany_TooMany ?su_Unknown_TooMany ?su_Taken_TooMany ?su_Refused_TooMany ?su_NothingToUndo_TooMany ?ga_Unknown ?gg_Unknown ?hd_Unknown ?ic_Unknown ?ex_Unknown ?ty_Unknown ?su_CoinsError_Unknown ?su_BadNumber_Unknown ?su_BadName_Unknown ?su_BadItem_Unknown ?su_BadEvent_Unknown ?su_BadNote_Unknown ?su_TooMany_Unknown ?su_Unknown_Unknown ?su_Taken_Unknown ?su_Refused_Unknown ?su_NothingToUndo_Unknown ?z_NothingToUndo ?kc_NothingToUndo ?gn ?gt ?ca_CoinsError ?mo_CoinsError ?ko_CoinsError_BadEvent ?ko_CoinsError_BadItem ?ko_CoinsError_BadName ?ko_CoinsError_BadNote ?ko_CoinsError_BadNumber ?ko_CoinsError_LookupError ?ko_CoinsError_NothingToUndo ?ko_CoinsError_Refused ?ko_CoinsError_RuntimeError ?ko_CoinsError_Taken ?ko_CoinsError_TooMany ?ko_CoinsError_Unknown ?ko_CoinsError_ValueError ?ca_BadNumber ?mo_BadNumber ?ko_BadNumber_BadEvent ?ko_BadNumber_BadItem ?ko_BadNumber_BadName ?ko_BadNumber_BadNote ?ko_BadNumber_BadNumber ?ko_BadNumber_LookupError ?ko_BadNumber_NothingToUndo ?ko_BadNumber_Refused ?ko_BadNumber_RuntimeError ?ko_BadNumber_Taken ?ko_BadNumber_TooMany ?ko_BadNumber_Unknown ?ko_BadNumber_ValueError ?ca_BadName ?mo_BadName ?ko_BadName_BadEvent ?ko_BadName_BadItem ?ko_BadName_BadName ?ko_BadName_BadNote ?ko_BadName_BadNumber ?ko_BadName_LookupError ?ko_BadName_NothingToUndo ?ko_BadName_Refused ?ko_BadName_RuntimeError ?ko_BadName_Taken ?ko_BadName_TooMany ?ko_BadName_Unknown ?ko_BadName_ValueError ?ca_BadItem ?mo_BadItem ?ko_BadItem_BadEvent ?ko_BadItem_BadItem ?ko_BadItem_BadName ?ko_BadItem_BadNote ?ko_BadItem_BadNumber ?ko_BadItem_LookupError ?ko_BadItem_NothingToUndo ?ko_BadItem_Refused ?ko_BadItem_RuntimeError ?ko_BadItem_Taken ?ko_BadItem_TooMany ?ko_BadItem_Unknown ?ko_BadItem_ValueError ?ca_BadEvent ?mo_BadEvent ?ko_BadEvent_BadEvent ?ko_BadEvent_BadItem ?ko_BadEvent_BadName ?ko_BadEvent_BadNote ?ko_BadEvent_BadNumber ?ko_BadEvent_LookupError ?ko_BadEvent_NothingToUndo ?ko_BadEvent_Refused ?ko_BadEvent_RuntimeError ?ko_BadEvent_Taken ?ko_BadEvent_TooMany ?ko_BadEvent_Unknown ?ko_BadEvent_ValueError ?ca_BadNote ?mo_BadNote ?ko_BadNote_BadEvent ?ko_BadNote_BadItem ?ko_BadNote_BadName ?ko_BadNote_BadNote ?ko_BadNote_BadNumber ?ko_BadNote_LookupError ?ko_BadNote_NothingToUndo ?ko_BadNote_Refused ?ko_BadNote_RuntimeError ?ko_BadNote_Taken ?ko_BadNote_TooMany ?ko_BadNote_Unknown ?ko_BadNote_ValueError ?ca_TooMany ?mo_TooMany ?ko_TooMany_BadEvent ?ko_TooMany_BadItem ?ko_TooMany_BadName ?ko_TooMany_BadNote ?ko_TooMany_BadNumber ?ko_TooMany_LookupError ?ko_TooMany_NothingToUndo ?ko_TooMany_Refused ?ko_TooMany_RuntimeError ?ko_TooMany_Taken ?ko_TooMany_TooMany ?ko_TooMany_Unknown ?ko_TooMany_ValueError ?ca_Unknown ?mo_Unknown ?ko_Unknown_BadEvent ?ko_Unknown_BadItem ?ko_Unknown_BadName ?ko_Unknown_BadNote ?ko_Unknown_BadNumber ?ko_Unknown_LookupError ?ko_Unknown_NothingToUndo ?ko_Unknown_Refused ?ko_Unknown_RuntimeError ?ko_Unknown_Taken ?ko_Unknown_TooMany ?ko_Unknown_Unknown ?ko_Unknown_ValueError ?ca_Taken ?mo_Taken ?ko_Taken_BadEvent ?ko_Taken_BadItem ?ko_Taken_BadName ?ko_Taken_BadNote ?ko_Taken_BadNumber ?ko_Taken_LookupError ?ko_Taken_NothingToUndo ?ko_Taken_Refused ?ko_Taken_RuntimeError ?ko_Taken_Taken ?ko_Taken_TooMany ?ko_Taken_Unknown ?ko_Taken_ValueError ?ca_Refused ?mo_Refused ?ko_Refused_BadEvent ?ko_Refused_BadItem ?ko_Refused_BadName ?ko_Refused_BadNote ?ko_Refused_BadNumber ?ko_Refused_LookupError ?ko_Refused_NothingToUndo ?ko_Refused_Refused ?ko_Refused_RuntimeError ?ko_Refused_Taken ?ko_Refused_TooMany ?ko_Refused_Unknown ?ko_Refused_ValueError ?ca_NothingToUndo ?mo_NothingToUndo ?ko_NothingToUndo_BadEvent ?ko_NothingToUndo_BadItem ?ko_NothingToUndo_BadName ?ko_NothingToUndo_BadNote ?ko_NothingToUndo_BadNumber ?ko_NothingToUndo_LookupError ?ko_NothingToUndo_NothingToUndo ?ko_NothingToUndo_Refused ?ko_NothingToUndo_RuntimeError ?ko_NothingToUndo_Taken ?ko_NothingToUndo_TooMany ?ko_NothingToUndo_Unknown ?ko_NothingToUndo_ValueError ?opq ?nsup ?xl_BadNumber ?sa_BadNumber ?kc_BadNumber ?ve_BadNumber ?mr_BadNumber ?ii_BadNumber ?ti_BadNumber ?li_BadNumber ?ci_BadNumber ?ld_BadNumber ?fi_BadNumber ?fe_BadNumber ?lc_BadNumber ?al_BadNumber ?no_BadNumber_value ?xl_BadName ?sa_BadName ?kc_BadName ?ve_BadName ?mr_BadName ?ii_BadName ?ti_BadName ?li_BadName ?ci_BadName ?ld_BadName ?fi_BadName ?fe_BadName ?lc_BadName ?al_BadName ?no_BadName_value ?xl_BadItem ?sa_BadItem ?kc_BadItem ?ve_BadItem ?mr_BadItem ?ii_BadItem ?ti_BadItem ?li_BadItem ?ci_BadItem ?ld_BadItem ?fi_BadItem ?fe_BadItem ?lc_BadItem ?al_BadItem ?no_BadItem_index ?xl_BadEvent ?sa_BadEvent ?kc_BadEvent ?ve_BadEvent ?mr_BadEvent ?ii_BadEvent ?ti_BadEvent ?li_BadEvent ?ci_BadEvent ?ld_BadEvent ?fi_BadEvent ?fe_BadEvent ?lc_BadEvent ?al_BadEvent ?no_BadEvent_value ?xl_BadNote ?sa_BadNote ?kc_BadNote ?ve_BadNote ?mr_BadNote ?ii_BadNote ?ti_BadNote ?li_BadNote ?ci_BadNote ?ld_BadNote ?fi_BadNote ?fe_BadNote ?lc_BadNote ?al_BadNote ?no_BadNote_line ?xl_TooMany ?sa_TooMany ?kc_TooMany ?ve_TooMany ?mr_TooMany ?ii_TooMany ?ti_TooMany ?li_TooMany ?ci_TooMany ?ld_TooMany ?fi_TooMany ?fe_TooMany ?lc_TooMany ?al_TooMany ?no_TooMany_limit ?xl_Unknown ?sa_Unknown ?kc_Unknown ?ve_Unknown ?mr_Unknown ?ii_Unknown ?ti_Unknown ?li_Unknown ?ci_Unknown ?ld_Unknown ?fi_Unknown ?fe_Unknown ?lc_Unknown ?al_Unknown ?no_Unknown_value ?xl_Taken ?sa_Taken ?kc_Taken ?ve_Taken ?mr_Taken ?ii_Taken ?ti_Taken ?li_Taken ?ci_Taken ?ld_Taken ?fi_Taken ?fe_Taken ?lc_Taken ?al_Taken ?no_Taken_value ?xl_Refused ?sa_Refused ?kc_Refused ?ve_Refused ?mr_Refused ?ii_Refused ?ti_Refused ?li_Refused ?ci_Refused ?ld_Refused ?fi_Refused ?fe_Refused ?lc_Refused ?al_Refused ?no_Refused_reason ?no_Refused_names ?tp
    (case nb_LookupError => k_is)
    (case nb_RuntimeError => k_is)
    (case nb_ValueError => k_is)
    (case nb_bool => k_is)
    (case nb_int => k_is)
    (case nb_isinstance => k_is)
    (case nb_len => k_is)
    (case nb_list => k_is)
    (case nb_range => k_is)
    (case nb_str => k_is)
    (case nb_tuple => k_is)
    (case a_CoinsError => k_is)
    (case a_BadNumber => k_is)
    (case a_BadName => k_is)
    (case a_BadItem => k_is)
    (case a_BadEvent => k_is)
    (case a_BadNote => k_is)
    (case a_TooMany => k_is)
    (case a_Unknown => k_is)
    (case a_Taken => k_is)
    (case a_Refused => k_is)
    (case a_NothingToUndo => k_is)
    (case a_law_taken => k_is)
    (case l_law_taken => k_is)
    (case c_law_taken => k_is)
    (case k_law_taken => k_is)
    (case a_law_pick => k_is)
    (case l_law_pick => k_is)
    (case c_law_pick => k_is)
    (case k_law_pick => k_is)
    (case a_law_alike => k_is)
    (case l_law_alike => k_is)
    (case c_law_alike => k_is)
    (case k_law_alike => k_is)
    (case a_law_raised => k_is)
    (case l_law_raised => k_is)
    (case c_law_raised => k_is)
    (case k_law_raised => k_is)
    (case a_law => k_is)
    (case l_law => k_is)
    (case c_law => k_is)
    (case k_law => k_is)
    (case ga_BadEvent => k_is)
    (case gg_BadEvent => k_is)
    (case hd_BadEvent => k_is)
    (case ic_BadEvent => k_is)
    (case ex_BadEvent => k_is)
    (case ty_BadEvent => k_is)
    (case su_CoinsError_BadEvent => first | rfl | k_is)
    (case su_BadNumber_BadEvent => first | rfl | k_is)
    (case su_BadName_BadEvent => first | rfl | k_is)
    (case su_BadItem_BadEvent => first | rfl | k_is)
    (case su_BadEvent_BadEvent => first | rfl | k_is)
    (case su_BadNote_BadEvent => first | rfl | k_is)
    (case su_TooMany_BadEvent => first | rfl | k_is)
    (case su_Unknown_BadEvent => first | rfl | k_is)
    (case su_Taken_BadEvent => first | rfl | k_is)
    (case su_Refused_BadEvent => first | rfl | k_is)
    (case su_NothingToUndo_BadEvent => first | rfl | k_is)
    (case ga_BadItem => k_is)
    (case gg_BadItem => k_is)
    (case hd_BadItem => k_is)
    (case ic_BadItem => k_is)
    (case ex_BadItem => k_is)
    (case ty_BadItem => k_is)
    (case su_CoinsError_BadItem => first | rfl | k_is)
    (case su_BadNumber_BadItem => first | rfl | k_is)
    (case su_BadName_BadItem => first | rfl | k_is)
    (case su_BadItem_BadItem => first | rfl | k_is)
    (case su_BadEvent_BadItem => first | rfl | k_is)
    (case su_BadNote_BadItem => first | rfl | k_is)
    (case su_TooMany_BadItem => first | rfl | k_is)
    (case su_Unknown_BadItem => first | rfl | k_is)
    (case su_Taken_BadItem => first | rfl | k_is)
    (case su_Refused_BadItem => first | rfl | k_is)
    (case su_NothingToUndo_BadItem => first | rfl | k_is)
    (case ga_BadName => k_is)
    (case gg_BadName => k_is)
    (case hd_BadName => k_is)
    (case ic_BadName => k_is)
    (case ex_BadName => k_is)
    (case ty_BadName => k_is)
    (case su_CoinsError_BadName => first | rfl | k_is)
    (case su_BadNumber_BadName => first | rfl | k_is)
    (case su_BadName_BadName => first | rfl | k_is)
    (case su_BadItem_BadName => first | rfl | k_is)
    (case su_BadEvent_BadName => first | rfl | k_is)
    (case su_BadNote_BadName => first | rfl | k_is)
    (case su_TooMany_BadName => first | rfl | k_is)
    (case su_Unknown_BadName => first | rfl | k_is)
    (case su_Taken_BadName => first | rfl | k_is)
    (case su_Refused_BadName => first | rfl | k_is)
    (case su_NothingToUndo_BadName => first | rfl | k_is)
    (case ga_BadNote => k_is)
    (case gg_BadNote => k_is)
    (case hd_BadNote => k_is)
    (case ic_BadNote => k_is)
    (case ex_BadNote => k_is)
    (case ty_BadNote => k_is)
    (case su_CoinsError_BadNote => first | rfl | k_is)
    (case su_BadNumber_BadNote => first | rfl | k_is)
    (case su_BadName_BadNote => first | rfl | k_is)
    (case su_BadItem_BadNote => first | rfl | k_is)
    (case su_BadEvent_BadNote => first | rfl | k_is)
    (case su_BadNote_BadNote => first | rfl | k_is)
    (case su_TooMany_BadNote => first | rfl | k_is)
    (case su_Unknown_BadNote => first | rfl | k_is)
    (case su_Taken_BadNote => first | rfl | k_is)
    (case su_Refused_BadNote => first | rfl | k_is)
    (case su_NothingToUndo_BadNote => first | rfl | k_is)
    (case ga_BadNumber => k_is)
    (case gg_BadNumber => k_is)
    (case hd_BadNumber => k_is)
    (case ic_BadNumber => k_is)
    (case ex_BadNumber => k_is)
    (case ty_BadNumber => k_is)
    (case su_CoinsError_BadNumber => first | rfl | k_is)
    (case su_BadNumber_BadNumber => first | rfl | k_is)
    (case su_BadName_BadNumber => first | rfl | k_is)
    (case su_BadItem_BadNumber => first | rfl | k_is)
    (case su_BadEvent_BadNumber => first | rfl | k_is)
    (case su_BadNote_BadNumber => first | rfl | k_is)
    (case su_TooMany_BadNumber => first | rfl | k_is)
    (case su_Unknown_BadNumber => first | rfl | k_is)
    (case su_Taken_BadNumber => first | rfl | k_is)
    (case su_Refused_BadNumber => first | rfl | k_is)
    (case su_NothingToUndo_BadNumber => first | rfl | k_is)
    (case ga_CoinsError => k_is)
    (case gg_CoinsError => k_is)
    (case hd_CoinsError => k_is)
    (case ic_CoinsError => k_is)
    (case ex_CoinsError => k_is)
    (case ty_CoinsError => k_is)
    (case su_CoinsError_CoinsError => first | rfl | k_is)
    (case su_BadNumber_CoinsError => first | rfl | k_is)
    (case su_BadName_CoinsError => first | rfl | k_is)
    (case su_BadItem_CoinsError => first | rfl | k_is)
    (case su_BadEvent_CoinsError => first | rfl | k_is)
    (case su_BadNote_CoinsError => first | rfl | k_is)
    (case su_TooMany_CoinsError => first | rfl | k_is)
    (case su_Unknown_CoinsError => first | rfl | k_is)
    (case su_Taken_CoinsError => first | rfl | k_is)
    (case su_Refused_CoinsError => first | rfl | k_is)
    (case su_NothingToUndo_CoinsError => first | rfl | k_is)
    (case ga_NothingToUndo => k_is)
    (case gg_NothingToUndo => k_is)
    (case hd_NothingToUndo => k_is)
    (case ic_NothingToUndo => k_is)
    (case ex_NothingToUndo => k_is)
    (case ty_NothingToUndo => k_is)
    (case su_CoinsError_NothingToUndo => first | rfl | k_is)
    (case su_BadNumber_NothingToUndo => first | rfl | k_is)
    (case su_BadName_NothingToUndo => first | rfl | k_is)
    (case su_BadItem_NothingToUndo => first | rfl | k_is)
    (case su_BadEvent_NothingToUndo => first | rfl | k_is)
    (case su_BadNote_NothingToUndo => first | rfl | k_is)
    (case su_TooMany_NothingToUndo => first | rfl | k_is)
    (case su_Unknown_NothingToUndo => first | rfl | k_is)
    (case su_Taken_NothingToUndo => first | rfl | k_is)
    (case su_Refused_NothingToUndo => first | rfl | k_is)
    (case su_NothingToUndo_NothingToUndo => first | rfl | k_is)
    (case ga_Refused => k_is)
    (case gg_Refused => k_is)
    (case hd_Refused => k_is)
    (case ic_Refused => k_is)
    (case ex_Refused => k_is)
    (case ty_Refused => k_is)
    (case su_CoinsError_Refused => first | rfl | k_is)
    (case su_BadNumber_Refused => first | rfl | k_is)
    (case su_BadName_Refused => first | rfl | k_is)
    (case su_BadItem_Refused => first | rfl | k_is)
    (case su_BadEvent_Refused => first | rfl | k_is)
    (case su_BadNote_Refused => first | rfl | k_is)
    (case su_TooMany_Refused => first | rfl | k_is)
    (case su_Unknown_Refused => first | rfl | k_is)
    (case su_Taken_Refused => first | rfl | k_is)
    (case su_Refused_Refused => first | rfl | k_is)
    (case su_NothingToUndo_Refused => first | rfl | k_is)
    (case ga_Taken => k_is)
    (case gg_Taken => k_is)
    (case hd_Taken => k_is)
    (case ic_Taken => k_is)
    (case ex_Taken => k_is)
    (case ty_Taken => k_is)
    (case su_CoinsError_Taken => first | rfl | k_is)
    (case su_BadNumber_Taken => first | rfl | k_is)
    (case su_BadName_Taken => first | rfl | k_is)
    (case su_BadItem_Taken => first | rfl | k_is)
    (case su_BadEvent_Taken => first | rfl | k_is)
    (case su_BadNote_Taken => first | rfl | k_is)
    (case su_TooMany_Taken => first | rfl | k_is)
    (case su_Unknown_Taken => first | rfl | k_is)
    (case su_Taken_Taken => first | rfl | k_is)
    (case su_Refused_Taken => first | rfl | k_is)
    (case su_NothingToUndo_Taken => first | rfl | k_is)
    (case ga_TooMany => k_is)
    (case gg_TooMany => k_is)
    (case hd_TooMany => k_is)
    (case ic_TooMany => k_is)
    (case ex_TooMany => k_is)
    (case ty_TooMany => k_is)
    (case su_CoinsError_TooMany => first | rfl | k_is)
    (case su_BadNumber_TooMany => first | rfl | k_is)
    (case su_BadName_TooMany => first | rfl | k_is)
    (case su_BadItem_TooMany => first | rfl | k_is)
    (case su_BadEvent_TooMany => first | rfl | k_is)
    (case su_BadNote_TooMany => first | rfl | k_is)
    (case su_TooMany_TooMany => first | rfl | k_is)
    (case su_Unknown_TooMany => first | rfl | k_is)
    (case su_Taken_TooMany => first | rfl | k_is)
    (case su_Refused_TooMany => first | rfl | k_is)
    (case su_NothingToUndo_TooMany => first | rfl | k_is)
    (case ga_Unknown => k_is)
    (case gg_Unknown => k_is)
    (case hd_Unknown => k_is)
    (case ic_Unknown => k_is)
    (case ex_Unknown => k_is)
    (case ty_Unknown => k_is)
    (case su_CoinsError_Unknown => first | rfl | k_is)
    (case su_BadNumber_Unknown => first | rfl | k_is)
    (case su_BadName_Unknown => first | rfl | k_is)
    (case su_BadItem_Unknown => first | rfl | k_is)
    (case su_BadEvent_Unknown => first | rfl | k_is)
    (case su_BadNote_Unknown => first | rfl | k_is)
    (case su_TooMany_Unknown => first | rfl | k_is)
    (case su_Unknown_Unknown => first | rfl | k_is)
    (case su_Taken_Unknown => first | rfl | k_is)
    (case su_Refused_Unknown => first | rfl | k_is)
    (case su_NothingToUndo_Unknown => first | rfl | k_is)
    (case z_NothingToUndo => k_exc)
    (case kc_NothingToUndo => k_is)
    (case gn => first | rfl | k_is)
    (case gt => first | rfl | k_is)
    (case ca_CoinsError => k_is)
    (case mo_CoinsError => k_is)
    (case ko_CoinsError_BadEvent => first | rfl | k_is)
    (case ko_CoinsError_BadItem => first | rfl | k_is)
    (case ko_CoinsError_BadName => first | rfl | k_is)
    (case ko_CoinsError_BadNote => first | rfl | k_is)
    (case ko_CoinsError_BadNumber => first | rfl | k_is)
    (case ko_CoinsError_LookupError => first | rfl | k_is)
    (case ko_CoinsError_NothingToUndo => first | rfl | k_is)
    (case ko_CoinsError_Refused => first | rfl | k_is)
    (case ko_CoinsError_RuntimeError => first | rfl | k_is)
    (case ko_CoinsError_Taken => first | rfl | k_is)
    (case ko_CoinsError_TooMany => first | rfl | k_is)
    (case ko_CoinsError_Unknown => first | rfl | k_is)
    (case ko_CoinsError_ValueError => first | rfl | k_is)
    (case ca_BadNumber => k_is)
    (case mo_BadNumber => k_is)
    (case ko_BadNumber_BadEvent => first | rfl | k_is)
    (case ko_BadNumber_BadItem => first | rfl | k_is)
    (case ko_BadNumber_BadName => first | rfl | k_is)
    (case ko_BadNumber_BadNote => first | rfl | k_is)
    (case ko_BadNumber_BadNumber => first | rfl | k_is)
    (case ko_BadNumber_LookupError => first | rfl | k_is)
    (case ko_BadNumber_NothingToUndo => first | rfl | k_is)
    (case ko_BadNumber_Refused => first | rfl | k_is)
    (case ko_BadNumber_RuntimeError => first | rfl | k_is)
    (case ko_BadNumber_Taken => first | rfl | k_is)
    (case ko_BadNumber_TooMany => first | rfl | k_is)
    (case ko_BadNumber_Unknown => first | rfl | k_is)
    (case ko_BadNumber_ValueError => first | rfl | k_is)
    (case ca_BadName => k_is)
    (case mo_BadName => k_is)
    (case ko_BadName_BadEvent => first | rfl | k_is)
    (case ko_BadName_BadItem => first | rfl | k_is)
    (case ko_BadName_BadName => first | rfl | k_is)
    (case ko_BadName_BadNote => first | rfl | k_is)
    (case ko_BadName_BadNumber => first | rfl | k_is)
    (case ko_BadName_LookupError => first | rfl | k_is)
    (case ko_BadName_NothingToUndo => first | rfl | k_is)
    (case ko_BadName_Refused => first | rfl | k_is)
    (case ko_BadName_RuntimeError => first | rfl | k_is)
    (case ko_BadName_Taken => first | rfl | k_is)
    (case ko_BadName_TooMany => first | rfl | k_is)
    (case ko_BadName_Unknown => first | rfl | k_is)
    (case ko_BadName_ValueError => first | rfl | k_is)
    (case ca_BadItem => k_is)
    (case mo_BadItem => k_is)
    (case ko_BadItem_BadEvent => first | rfl | k_is)
    (case ko_BadItem_BadItem => first | rfl | k_is)
    (case ko_BadItem_BadName => first | rfl | k_is)
    (case ko_BadItem_BadNote => first | rfl | k_is)
    (case ko_BadItem_BadNumber => first | rfl | k_is)
    (case ko_BadItem_LookupError => first | rfl | k_is)
    (case ko_BadItem_NothingToUndo => first | rfl | k_is)
    (case ko_BadItem_Refused => first | rfl | k_is)
    (case ko_BadItem_RuntimeError => first | rfl | k_is)
    (case ko_BadItem_Taken => first | rfl | k_is)
    (case ko_BadItem_TooMany => first | rfl | k_is)
    (case ko_BadItem_Unknown => first | rfl | k_is)
    (case ko_BadItem_ValueError => first | rfl | k_is)
    (case ca_BadEvent => k_is)
    (case mo_BadEvent => k_is)
    (case ko_BadEvent_BadEvent => first | rfl | k_is)
    (case ko_BadEvent_BadItem => first | rfl | k_is)
    (case ko_BadEvent_BadName => first | rfl | k_is)
    (case ko_BadEvent_BadNote => first | rfl | k_is)
    (case ko_BadEvent_BadNumber => first | rfl | k_is)
    (case ko_BadEvent_LookupError => first | rfl | k_is)
    (case ko_BadEvent_NothingToUndo => first | rfl | k_is)
    (case ko_BadEvent_Refused => first | rfl | k_is)
    (case ko_BadEvent_RuntimeError => first | rfl | k_is)
    (case ko_BadEvent_Taken => first | rfl | k_is)
    (case ko_BadEvent_TooMany => first | rfl | k_is)
    (case ko_BadEvent_Unknown => first | rfl | k_is)
    (case ko_BadEvent_ValueError => first | rfl | k_is)
    (case ca_BadNote => k_is)
    (case mo_BadNote => k_is)
    (case ko_BadNote_BadEvent => first | rfl | k_is)
    (case ko_BadNote_BadItem => first | rfl | k_is)
    (case ko_BadNote_BadName => first | rfl | k_is)
    (case ko_BadNote_BadNote => first | rfl | k_is)
    (case ko_BadNote_BadNumber => first | rfl | k_is)
    (case ko_BadNote_LookupError => first | rfl | k_is)
    (case ko_BadNote_NothingToUndo => first | rfl | k_is)
    (case ko_BadNote_Refused => first | rfl | k_is)
    (case ko_BadNote_RuntimeError => first | rfl | k_is)
    (case ko_BadNote_Taken => first | rfl | k_is)
    (case ko_BadNote_TooMany => first | rfl | k_is)
    (case ko_BadNote_Unknown => first | rfl | k_is)
    (case ko_BadNote_ValueError => first | rfl | k_is)
    (case ca_TooMany => k_is)
    (case mo_TooMany => k_is)
    (case ko_TooMany_BadEvent => first | rfl | k_is)
    (case ko_TooMany_BadItem => first | rfl | k_is)
    (case ko_TooMany_BadName => first | rfl | k_is)
    (case ko_TooMany_BadNote => first | rfl | k_is)
    (case ko_TooMany_BadNumber => first | rfl | k_is)
    (case ko_TooMany_LookupError => first | rfl | k_is)
    (case ko_TooMany_NothingToUndo => first | rfl | k_is)
    (case ko_TooMany_Refused => first | rfl | k_is)
    (case ko_TooMany_RuntimeError => first | rfl | k_is)
    (case ko_TooMany_Taken => first | rfl | k_is)
    (case ko_TooMany_TooMany => first | rfl | k_is)
    (case ko_TooMany_Unknown => first | rfl | k_is)
    (case ko_TooMany_ValueError => first | rfl | k_is)
    (case ca_Unknown => k_is)
    (case mo_Unknown => k_is)
    (case ko_Unknown_BadEvent => first | rfl | k_is)
    (case ko_Unknown_BadItem => first | rfl | k_is)
    (case ko_Unknown_BadName => first | rfl | k_is)
    (case ko_Unknown_BadNote => first | rfl | k_is)
    (case ko_Unknown_BadNumber => first | rfl | k_is)
    (case ko_Unknown_LookupError => first | rfl | k_is)
    (case ko_Unknown_NothingToUndo => first | rfl | k_is)
    (case ko_Unknown_Refused => first | rfl | k_is)
    (case ko_Unknown_RuntimeError => first | rfl | k_is)
    (case ko_Unknown_Taken => first | rfl | k_is)
    (case ko_Unknown_TooMany => first | rfl | k_is)
    (case ko_Unknown_Unknown => first | rfl | k_is)
    (case ko_Unknown_ValueError => first | rfl | k_is)
    (case ca_Taken => k_is)
    (case mo_Taken => k_is)
    (case ko_Taken_BadEvent => first | rfl | k_is)
    (case ko_Taken_BadItem => first | rfl | k_is)
    (case ko_Taken_BadName => first | rfl | k_is)
    (case ko_Taken_BadNote => first | rfl | k_is)
    (case ko_Taken_BadNumber => first | rfl | k_is)
    (case ko_Taken_LookupError => first | rfl | k_is)
    (case ko_Taken_NothingToUndo => first | rfl | k_is)
    (case ko_Taken_Refused => first | rfl | k_is)
    (case ko_Taken_RuntimeError => first | rfl | k_is)
    (case ko_Taken_Taken => first | rfl | k_is)
    (case ko_Taken_TooMany => first | rfl | k_is)
    (case ko_Taken_Unknown => first | rfl | k_is)
    (case ko_Taken_ValueError => first | rfl | k_is)
    (case ca_Refused => k_is)
    (case mo_Refused => k_is)
    (case ko_Refused_BadEvent => first | rfl | k_is)
    (case ko_Refused_BadItem => first | rfl | k_is)
    (case ko_Refused_BadName => first | rfl | k_is)
    (case ko_Refused_BadNote => first | rfl | k_is)
    (case ko_Refused_BadNumber => first | rfl | k_is)
    (case ko_Refused_LookupError => first | rfl | k_is)
    (case ko_Refused_NothingToUndo => first | rfl | k_is)
    (case ko_Refused_Refused => first | rfl | k_is)
    (case ko_Refused_RuntimeError => first | rfl | k_is)
    (case ko_Refused_Taken => first | rfl | k_is)
    (case ko_Refused_TooMany => first | rfl | k_is)
    (case ko_Refused_Unknown => first | rfl | k_is)
    (case ko_Refused_ValueError => first | rfl | k_is)
    (case ca_NothingToUndo => k_is)
    (case mo_NothingToUndo => k_is)
    (case ko_NothingToUndo_BadEvent => first | rfl | k_is)
    (case ko_NothingToUndo_BadItem => first | rfl | k_is)
    (case ko_NothingToUndo_BadName => first | rfl | k_is)
    (case ko_NothingToUndo_BadNote => first | rfl | k_is)
    (case ko_NothingToUndo_BadNumber => first | rfl | k_is)
    (case ko_NothingToUndo_LookupError => first | rfl | k_is)
    (case ko_NothingToUndo_NothingToUndo => first | rfl | k_is)
    (case ko_NothingToUndo_Refused => first | rfl | k_is)
    (case ko_NothingToUndo_RuntimeError => first | rfl | k_is)
    (case ko_NothingToUndo_Taken => first | rfl | k_is)
    (case ko_NothingToUndo_TooMany => first | rfl | k_is)
    (case ko_NothingToUndo_Unknown => first | rfl | k_is)
    (case ko_NothingToUndo_ValueError => first | rfl | k_is)
    (case opq => k_is)
    (case nsup => k_is)
    (case xl_BadNumber => k_is)
    (case sa_BadNumber => k_is)
    (case kc_BadNumber => k_is)
    (case ve_BadNumber => k_is)
    (case mr_BadNumber => k_is)
    (case ii_BadNumber => k_is)
    (case ti_BadNumber => k_is)
    (case li_BadNumber => k_is)
    (case ci_BadNumber => k_is)
    (case ld_BadNumber => k_is)
    (case fi_BadNumber => rfl)
    (case fe_BadNumber => first | rfl | decide +kernel)
    (case lc_BadNumber => k_is)
    (case al_BadNumber => first | ks_is | k_is | rfl)
    (case no_BadNumber_value => k_is)
    (case xl_BadName => k_is)
    (case sa_BadName => k_is)
    (case kc_BadName => k_is)
    (case ve_BadName => k_is)
    (case mr_BadName => k_is)
    (case ii_BadName => k_is)
    (case ti_BadName => k_is)
    (case li_BadName => k_is)
    (case ci_BadName => k_is)
    (case ld_BadName => k_is)
    (case fi_BadName => rfl)
    (case fe_BadName => first | rfl | decide +kernel)
    (case lc_BadName => k_is)
    (case al_BadName => first | ks_is | k_is | rfl)
    (case no_BadName_value => k_is)
    (case xl_BadItem => k_is)
    (case sa_BadItem => k_is)
    (case kc_BadItem => k_is)
    (case ve_BadItem => k_is)
    (case mr_BadItem => k_is)
    (case ii_BadItem => k_is)
    (case ti_BadItem => k_is)
    (case li_BadItem => k_is)
    (case ci_BadItem => k_is)
    (case ld_BadItem => k_is)
    (case fi_BadItem => rfl)
    (case fe_BadItem => first | rfl | decide +kernel)
    (case lc_BadItem => k_is)
    (case al_BadItem => first | ks_is | k_is | rfl)
    (case no_BadItem_index => k_is)
    (case xl_BadEvent => k_is)
    (case sa_BadEvent => k_is)
    (case kc_BadEvent => k_is)
    (case ve_BadEvent => k_is)
    (case mr_BadEvent => k_is)
    (case ii_BadEvent => k_is)
    (case ti_BadEvent => k_is)
    (case li_BadEvent => k_is)
    (case ci_BadEvent => k_is)
    (case ld_BadEvent => k_is)
    (case fi_BadEvent => rfl)
    (case fe_BadEvent => first | rfl | decide +kernel)
    (case lc_BadEvent => k_is)
    (case al_BadEvent => first | ks_is | k_is | rfl)
    (case no_BadEvent_value => k_is)
    (case xl_BadNote => k_is)
    (case sa_BadNote => k_is)
    (case kc_BadNote => k_is)
    (case ve_BadNote => k_is)
    (case mr_BadNote => k_is)
    (case ii_BadNote => k_is)
    (case ti_BadNote => k_is)
    (case li_BadNote => k_is)
    (case ci_BadNote => k_is)
    (case ld_BadNote => k_is)
    (case fi_BadNote => rfl)
    (case fe_BadNote => first | rfl | decide +kernel)
    (case lc_BadNote => k_is)
    (case al_BadNote => first | ks_is | k_is | rfl)
    (case no_BadNote_line => k_is)
    (case xl_TooMany => k_is)
    (case sa_TooMany => k_is)
    (case kc_TooMany => k_is)
    (case ve_TooMany => k_is)
    (case mr_TooMany => k_is)
    (case ii_TooMany => k_is)
    (case ti_TooMany => k_is)
    (case li_TooMany => k_is)
    (case ci_TooMany => k_is)
    (case ld_TooMany => k_is)
    (case fi_TooMany => rfl)
    (case fe_TooMany => first | rfl | decide +kernel)
    (case lc_TooMany => k_is)
    (case al_TooMany => first | ks_is | k_is | rfl)
    (case no_TooMany_limit => k_is)
    (case xl_Unknown => k_is)
    (case sa_Unknown => k_is)
    (case kc_Unknown => k_is)
    (case ve_Unknown => k_is)
    (case mr_Unknown => k_is)
    (case ii_Unknown => k_is)
    (case ti_Unknown => k_is)
    (case li_Unknown => k_is)
    (case ci_Unknown => k_is)
    (case ld_Unknown => k_is)
    (case fi_Unknown => rfl)
    (case fe_Unknown => first | rfl | decide +kernel)
    (case lc_Unknown => k_is)
    (case al_Unknown => first | ks_is | k_is | rfl)
    (case no_Unknown_value => k_is)
    (case xl_Taken => k_is)
    (case sa_Taken => k_is)
    (case kc_Taken => k_is)
    (case ve_Taken => k_is)
    (case mr_Taken => k_is)
    (case ii_Taken => k_is)
    (case ti_Taken => k_is)
    (case li_Taken => k_is)
    (case ci_Taken => k_is)
    (case ld_Taken => k_is)
    (case fi_Taken => rfl)
    (case fe_Taken => first | rfl | decide +kernel)
    (case lc_Taken => k_is)
    (case al_Taken => first | ks_is | k_is | rfl)
    (case no_Taken_value => k_is)
    (case xl_Refused => k_is)
    (case sa_Refused => k_is)
    (case kc_Refused => k_is)
    (case ve_Refused => k_is)
    (case mr_Refused => k_is)
    (case ii_Refused => k_is)
    (case ti_Refused => k_is)
    (case li_Refused => k_is)
    (case ci_Refused => k_is)
    (case ld_Refused => k_is)
    (case fi_Refused => rfl)
    (case fe_Refused => first | rfl | decide +kernel)
    (case lc_Refused => k_is)
    (case al_Refused => first | ks_is | k_is | rfl)
    (case no_Refused_reason => k_is)
    (case no_Refused_names => k_is)
    (case tp => first | rfl | decide +kernel)
#print axioms PySem.Challenge.cw_coinspaidout_k09_errors_holds
