import PyProof.Rows.All
import Wide.All
import OpenK.AllK
import Wide.FinOn
import HandS.ForMost
import HandS.ForExc
import HandS.IsInst
import HandS.TupAny
import HandS.TupMul
import HandS.Lambda
import HandS.Sort
import HandS.Zip
import HandS.Deep
import HandS.TryMany
import HandS.CallLocal
import HandS.More
import HandS.EndTab
import HandS.Head0
import HandS.Head1
import HandS.Head2
import HandS.HeadEnd
import HandS.HeadHook1
import HandS.HeadHook2
import HandS.HeadHook3
import HandS.HeadHook4
import HandS.HeadNt
import HandS.HeadWalk
import PySem.Challenge.RW_orderloom_k40_whole_order_of_conditions
set_option Elab.async false
set_option linter.all false
set_option maxRecDepth 100000
set_option maxHeartbeats 4000000
namespace MM
open PySem PySem.Spec L2

/-! ### data -/
inductive D where
  | non | bl (b : Bool) | int (i : Int) | str (s : List Nat) | lst (xs : List D) | tup (xs : List D) | dic (kvs : List (D × D)) | cup | fn (x : List Nat) | ty (n : String)
structure Ex where
  cls : Str
  fld : Option (Str × D)
/-- a computation: a value, an exception, nothing known, or a draw of a number below n -/
inductive T (α : Type) where
  | ret (a : α) | exc (e : Ex) | bad | draw (n : Nat) (k : Nat → T α)
namespace T
def bind {α β : Type} : T α → (α → T β) → T β
  | .ret a, f => f a
  | .exc e, _ => .exc e
  | .bad, _ => .bad
  | .draw n k, f => .draw n fun i => (k i).bind f
instance : Monad T where
  pure := T.ret
  bind := T.bind
def wp {α : Type} : T α → (α → Prop) → (Ex → Prop) → Prop
  | .ret a, Q, _ => Q a
  | .exc e, _, E => E e
  | .bad, _, _ => False
  | .draw n k, Q, E => 0 < n ∧ ∀ i, i < n → (k i).wp Q E
theorem wp_bind {α β : Type} (f : α → T β) (Q : β → Prop) (E : Ex → Prop) : ∀ t : T α, (t.bind f).wp Q E ↔ t.wp (fun a => (f a).wp Q E) E
  | .ret a => Iff.rfl
  | .exc e => Iff.rfl
  | .bad => Iff.rfl
  | .draw n k => by
    show (0 < n ∧ ∀ i, i < n → ((k i).bind f).wp Q E) ↔ (0 < n ∧ ∀ i, i < n → (k i).wp _ E)
    constructor
    · rintro ⟨h, g⟩; exact ⟨h, fun i hi => (wp_bind f Q E (k i)).mp (g i hi)⟩
    · rintro ⟨h, g⟩; exact ⟨h, fun i hi => (wp_bind f Q E (k i)).mpr (g i hi)⟩
theorem wp_mono {α : Type} {Q Q' : α → Prop} {E E' : Ex → Prop} (hq : ∀ a, Q a → Q' a) (he : ∀ x, E x → E' x) : ∀ {t : T α}, t.wp Q E → t.wp Q' E'
  | .ret a, h => hq a h
  | .exc e, h => he e h
  | .bad, h => h
  | .draw n k, h => ⟨h.1, fun i hi => wp_mono hq he (h.2 i hi)⟩
end T

/-! ### the ghosts -/
/-- a thunk that a def was handed: its object, the cups and the heap at the def's start -/
structure Th where
  f : Addr
  C : Addr → Prop
  H0 : Hp
structure Tb where
  l : List (Addr × Str)
  th : Option Th
def tb0 (l : List (Addr × Str)) : Tb := ⟨l, none⟩
structure Pg where
  K : PySem.W.Frag
  mg : Str → Option Value
  tb : Tb
structure Gh where
  H0 : Hp
  N0 : Addr → Prop
  C : Addr → Prop
  hC : ∀ a, C a → N0 a

def CupAt (H : Hp) (a : Addr) : Prop := ∃ c d : Int, H a = some (.lst [.int c, .int d]) ∧ 0 ≤ c ∧ 0 ≤ d ∧ d < 2147483543

abbrev sl (x : List Nat) : Str := ⟨x.toArray⟩

mutual
def Rep (p : Pg) (C : Addr → Prop) (H : Hp) (N : Addr → Prop) : D → V → Prop
  | .non, v => v = .non
  | .bl b, v => v = .bl b
  | .int i, v => v = .int i
  | .str s, v => v = .str (sl s) ∧ (∀ c ∈ s, c < 0x110000) ∧ s.length ≤ sizeLine
  | .ty n, v => v = .ty n
  | .lst xs, v => ∃ a vs, v = .ref a ∧ ¬ N a ∧ H a = some (.lst vs) ∧ xs.length ≤ sizeLine ∧ RepL p C H N xs vs
  | .tup xs, v => ∃ a vs, v = .ref a ∧ SqT p.K H a vs ∧ xs.length ≤ sizeLine ∧ RepL p C H N xs vs
  | .dic kvs, v => ∃ a kws, v = .ref a ∧ ¬ N a ∧ H a = some (.dK kws) ∧ kvs.length ≤ sizeLine ∧ RepK p C H N kvs kws
  | .cup, v => ∃ a, v = .ref a ∧ C a
  | .fn x, v => ∃ f, v = .ref f ∧ ((x ≠ [] ∧ p.mg (sl x) = some (.ref f)) ∨ (x = [] ∧ ∃ t, p.tb.th = some t ∧ t.f = f))
def RepL (p : Pg) (C : Addr → Prop) (H : Hp) (N : Addr → Prop) : List D → List V → Prop
  | [], vs => vs = []
  | d :: ds, vs => ∃ v ws, vs = v :: ws ∧ Rep p C H N d v ∧ RepL p C H N ds ws
def RepK (p : Pg) (C : Addr → Prop) (H : Hp) (N : Addr → Prop) : List (D × D) → List (Key × V) → Prop
  | [], kws => kws = []
  | (k, d) :: ds, kws => ∃ kk v ws, kws = (kk, v) :: ws ∧ Rep p C H N k (kV kk) ∧ Rep p C H N d v ∧ RepK p C H N ds ws
end

/-- an object that is no table of code objects -/
def Ob (H : Hp) (b : Addr) : Prop := ∃ o, H b = some o ∧ ∀ ps, o ≠ .tbl ps
theorem nOb {H : Hp} {a : Addr} (h : H a = none) : ¬ Ob H a := fun ⟨_, e, _⟩ => by rw [h] at e; cases e
structure Step (p : Pg) (C : Addr → Prop) (H H' : Hp) : Prop where
  grow : ∀ b o, H b = some o → ¬ C b → (∀ ps, o ≠ .tbl ps) → H' b = some o
  cup : ∀ a, C a → CupAt H' a
  tabs : LamX.Tabs p.tb.l H'
  dom : ∀ b, Ob H b → Ob H' b

section
variable {p : Pg} {C : Addr → Prop} {H H1 H' H2 : Hp} {N N' : Addr → Prop}
theorem Step.trans (a : Step p C H H1) (b : Step p C H1 H2) : Step p C H H2 :=
  ⟨fun c o h n t => b.grow c o (a.grow c o h n t) n t, b.cup, b.tabs, fun c h => b.dom c (a.dom c h)⟩
end

/-- the heap moves where nothing of a frozen thing lies -/
structure Mv (N N' : Addr → Prop) (H H' : Hp) : Prop where
  keep : ∀ b o, H b = some o → ¬ N b → (∀ ps, o ≠ .tbl ps) → (∀ xs, o ≠ .tup xs) → H' b = some o
  tup : ∀ b xs, H b = some (.tup xs) → H' b = some (.tup xs)
  frz : ∀ b o u, H b = some (.frz o u) → H' b = some (.frz o u)
  nn : ∀ b, ¬ N b → Ob H b → ¬ N' b

mutual
theorem Rep.mv {p : Pg} {C : Addr → Prop} {N N' : Addr → Prop} {H H' : Hp} (m : Mv N N' H H') : ∀ {d : D} {v : V}, Rep p C H N d v → Rep p C H' N' d v
  | .non, _, h => h
  | .bl _, _, h => h
  | .int _, _, h => h
  | .str _, _, h => h
  | .cup, _, h => h
  | .fn _, _, h => h
  | .ty _, _, h => h
  | .lst xs, v, h => by
    simp only [Rep] at h ⊢
    obtain ⟨a, vs, e, n, s, l, r⟩ := h
    exact ⟨a, vs, e, m.nn a n ⟨_, s, fun _ => by simp⟩, m.keep _ _ s n (fun _ => by simp) (fun _ => by simp), l, RepL.mv m r⟩
  | .tup xs, v, h => by
    simp only [Rep] at h ⊢
    obtain ⟨a, vs, e, s, l, r⟩ := h
    refine ⟨a, vs, e, ?_, l, RepL.mv m r⟩
    rcases s with (h | ⟨o, h⟩) | h
    · exact .inl (.inl (m.tup _ _ h))
    · exact .inl (.inr ⟨o, m.frz _ _ _ h⟩)
    · exact .inr h
  | .dic kvs, v, h => by
    simp only [Rep] at h ⊢
    obtain ⟨a, kws, e, n, s, l, r⟩ := h
    exact ⟨a, kws, e, m.nn a n ⟨_, s, fun _ => by simp⟩, m.keep _ _ s n (fun _ => by simp) (fun _ => by simp), l, RepK.mv m r⟩
theorem RepL.mv {p : Pg} {C : Addr → Prop} {N N' : Addr → Prop} {H H' : Hp} (m : Mv N N' H H') : ∀ {ds : List D} {vs : List V}, RepL p C H N ds vs → RepL p C H' N' ds vs
  | [], _, h => h
  | d :: ds, vs, h => by
    simp only [RepL] at h ⊢
    obtain ⟨v, ws, e, r, q⟩ := h
    exact ⟨v, ws, e, Rep.mv m r, RepL.mv m q⟩
theorem RepK.mv {p : Pg} {C : Addr → Prop} {N N' : Addr → Prop} {H H' : Hp} (m : Mv N N' H H') : ∀ {ds : List (D × D)} {vs : List (Key × V)}, RepK p C H N ds vs → RepK p C H' N' ds vs
  | [], _, h => h
  | (k, d) :: ds, vs, h => by
    simp only [RepK] at h ⊢
    obtain ⟨kk, v, ws, e, r, r2, q⟩ := h
    exact ⟨kk, v, ws, e, Rep.mv m r, Rep.mv m r2, RepK.mv m q⟩
end
theorem Mv.sub {N N' : Addr → Prop} {H : Hp} (h : ∀ a, N' a → N a) : Mv N N' H H :=
  ⟨fun _ _ h _ _ _ => h, fun _ _ h => h, fun _ _ _ h => h, fun b n _ z => n (h b z)⟩
theorem Mv.trans {N N1 N2 : Addr → Prop} {H H1 H2 : Hp} (a : Mv N N1 H H1) (b : Mv N1 N2 H1 H2) (hd : ∀ b, Ob H b → Ob H1 b) : Mv N N2 H H2 :=
  ⟨fun c o h n t u => b.keep c o (a.keep c o h n t u) (a.nn c n ⟨_, h, t⟩) t u, fun c xs h => b.tup c xs (a.tup c xs h), fun c o u h => b.frz c o u (a.frz c o u h),
   fun c n h => b.nn c (a.nn c n h) (hd c h)⟩

/-- a value read through, whatever owns its own object -/
def RepP (p : Pg) (C : Addr → Prop) (H : Hp) (N : Addr → Prop) (d : D) (v : V) : Prop :=
  match d with
  | .lst xs => ∃ a vs, v = .ref a ∧ ¬ C a ∧ H a = some (.lst vs) ∧ xs.length ≤ sizeLine ∧ RepL p C H N xs vs
  | .dic kvs => ∃ a kws, v = .ref a ∧ ¬ C a ∧ H a = some (.dK kws) ∧ kvs.length ≤ sizeLine ∧ RepK p C H N kvs kws
  | d => Rep p C H N d v
theorem Rep.p {p : Pg} {C : Addr → Prop} {H : Hp} {N : Addr → Prop} {d : D} {v : V} (hN : ∀ a, C a → N a) (h : Rep p C H N d v) : RepP p C H N d v := by
  cases d with
  | lst xs => simp only [Rep] at h; obtain ⟨a, vs, e, n, s, l, r⟩ := h; exact ⟨a, vs, e, fun c => n (hN a c), s, l, r⟩
  | dic xs => simp only [Rep] at h; obtain ⟨a, vs, e, n, s, l, r⟩ := h; exact ⟨a, vs, e, fun c => n (hN a c), s, l, r⟩
  | _ => exact h
/-- the arguments, read through -/
def RepPs (p : Pg) (C : Addr → Prop) (H : Hp) (N : Addr → Prop) : List D → List V → Prop
  | [], vs => vs = []
  | d :: ds, vs => ∃ v ws, vs = v :: ws ∧ RepP p C H N d v ∧ RepPs p C H N ds ws
theorem RepL.p {p : Pg} {C : Addr → Prop} {H : Hp} {N : Addr → Prop} (hN : ∀ a, C a → N a) : ∀ {ds : List D} {vs : List V}, RepL p C H N ds vs → RepPs p C H N ds vs
  | [], _, h => by simp only [RepL] at h; simp only [RepPs]; exact h
  | d :: ds, vs, h => by
    simp only [RepL] at h
    obtain ⟨v, ws, e, r, q⟩ := h
    exact ⟨v, ws, e, r.p hN, RepL.p hN q⟩
section
variable {p : Pg} {C : Addr → Prop} {H : Hp} {N : Addr → Prop}
theorem RepL.length : ∀ {ds : List D} {vs : List V}, RepL p C H N ds vs → vs.length = ds.length
  | [], _, h => by simp only [RepL] at h; subst h; rfl
  | d :: ds, _, h => by
    simp only [RepL] at h
    obtain ⟨v, ws, rfl, _, q⟩ := h
    simp [RepL.length q]
theorem RepL.get : ∀ {ds : List D} {vs : List V} {i : Nat} {d : D}, RepL p C H N ds vs → ds[i]? = some d → ∃ v, vs[i]? = some v ∧ Rep p C H N d v
  | [], _, _, _, _, e => by simp at e
  | d :: ds, _, 0, _, h, e => by
    simp only [RepL] at h
    obtain ⟨v, ws, rfl, r, _⟩ := h
    simp at e; subst e
    exact ⟨v, rfl, r⟩
  | d :: ds, _, i + 1, d', h, e => by
    simp only [RepL] at h
    obtain ⟨v, ws, rfl, _, q⟩ := h
    obtain ⟨w, e1, r⟩ := RepL.get (i := i) q (by simpa using e)
    exact ⟨w, by simpa using e1, r⟩
theorem RepL.get' {ds : List D} {vs : List V} {i : Nat} {v : V} (h : RepL p C H N ds vs) (e : vs[i]? = some v) : ∃ d, ds[i]? = some d ∧ Rep p C H N d v := by
  have hi : i < vs.length := (List.getElem?_eq_some_iff.mp e).1
  have hi' : i < ds.length := by rw [← h.length]; exact hi
  obtain ⟨w, e1, r⟩ := h.get (List.getElem?_eq_getElem hi')
  rw [e] at e1; cases e1
  exact ⟨_, List.getElem?_eq_getElem hi', r⟩
theorem RepL.app : ∀ {ds es : List D} {vs ws : List V}, RepL p C H N ds vs → RepL p C H N es ws → RepL p C H N (ds ++ es) (vs ++ ws)
  | [], _, _, _, h, q => by simp only [RepL] at h; subst h; exact q
  | d :: ds, es, _, ws, h, q => by
    simp only [RepL] at h
    obtain ⟨v, us, rfl, r, t⟩ := h
    show RepL p C H N (d :: (ds ++ es)) (v :: (us ++ ws))
    simp only [RepL]
    exact ⟨v, _, rfl, r, RepL.app t q⟩
theorem RepL.drop : ∀ {ds : List D} {vs : List V} (n : Nat), RepL p C H N ds vs → RepL p C H N (ds.drop n) (vs.drop n)
  | _, _, 0, h => h
  | [], _, n + 1, h => by simp only [RepL] at h; subst h; simp [RepL]
  | d :: ds, _, n + 1, h => by
    simp only [RepL] at h
    obtain ⟨v, us, rfl, r, t⟩ := h
    simpa using RepL.drop n t
theorem RepL.take : ∀ {ds : List D} {vs : List V} (n : Nat), RepL p C H N ds vs → RepL p C H N (ds.take n) (vs.take n)
  | _, _, 0, h => by simp [RepL]
  | [], _, n + 1, h => by simp only [RepL] at h; subst h; simp [RepL]
  | d :: ds, _, n + 1, h => by
    simp only [RepL] at h
    obtain ⟨v, us, rfl, r, t⟩ := h
    simp only [List.take_succ_cons, RepL]
    exact ⟨v, _, rfl, r, RepL.take n t⟩
theorem RepL.one {d : D} {v : V} (h : Rep p C H N d v) : RepL p C H N [d] [v] := by
  simp only [RepL]; exact ⟨v, [], rfl, h, rfl⟩
theorem RepL.cons {d : D} {v : V} {ds : List D} {vs : List V} (h : Rep p C H N d v) (q : RepL p C H N ds vs) : RepL p C H N (d :: ds) (v :: vs) := by
  simp only [RepL]; exact ⟨v, vs, rfl, h, q⟩
theorem RepL.nil : RepL p C H N [] [] := by simp [RepL]
end

/-! ### the slots -/
inductive Sl where
  | no | frz (d : D) | own (d : D)
abbrev Env := List Sl
def OwnAt (σ : St) (env : Env) (i : Nat) (a : Addr) : Prop := (∃ d, env[i]? = some (.own d)) ∧ σ[i]? = some (some (.ref a))
def Nn (g : Gh) (σ : St) (env : Env) : Addr → Prop := fun a => g.N0 a ∨ ∃ i, OwnAt σ env i a
def OwnRep (p : Pg) (C : Addr → Prop) (H : Hp) (N : Addr → Prop) (d : D) (a : Addr) : Prop :=
  match d with
  | .lst xs => ∃ vs, H a = some (.lst vs) ∧ xs.length ≤ sizeLine ∧ RepL p C H N xs vs
  | .dic kvs => ∃ kws, H a = some (.dK kws) ∧ kvs.length ≤ sizeLine ∧ RepK p C H N kvs kws
  | _ => False
def SlOk (p : Pg) (g : Gh) (σ : St) (env : Env) (H : Hp) (i : Nat) (s : Sl) : Prop :=
  match s with
  | .no => True
  | .frz d => ∃ v, σ[i]? = some (some v) ∧ Rep p g.C H (Nn g σ env) d v
  | .own d => ∃ a, σ[i]? = some (some (.ref a)) ∧ OwnRep p g.C H (Nn g σ env) d a
structure ER (p : Pg) (g : Gh) (σ : St) (env : Env) (H : Hp) : Prop where
  len : σ.length = env.length
  keep : ∀ b o, g.H0 b = some o → ¬ g.C b → (∀ ps, o ≠ .tbl ps) → H b = some o
  dom : ∀ b, Ob g.H0 b → Ob H b
  cup : ∀ a, g.C a → CupAt H a
  tabs : LamX.Tabs p.tb.l H
  n0 : ∀ a, g.N0 a → Ob H a
  slot : ∀ i s, env[i]? = some s → SlOk p g σ env H i s
  uniq : ∀ i j a, OwnAt σ env i a → OwnAt σ env j a → i = j
  fresh : ∀ i a, OwnAt σ env i a → ¬ g.N0 a ∧ ¬ Ob g.H0 a
  th : ∀ t, p.tb.th = some t → g.C = t.C ∧ g.H0 = t.H0

section
variable {p : Pg} {g : Gh} {σ : St} {env : Env} {H H' : Hp}
theorem OwnRep.obj {C N : Addr → Prop} {d : D} {a : Addr} (h : OwnRep p C H N d a) : (∃ vs, H a = some (.lst vs)) ∨ ∃ kws, H a = some (.dK kws) := by
  cases d with
  | lst xs => obtain ⟨vs, e, _⟩ := h; exact .inl ⟨vs, e⟩
  | dic xs => obtain ⟨vs, e, _⟩ := h; exact .inr ⟨vs, e⟩
  | _ => exact h.elim
theorem OwnRep.mv {C N N' : Addr → Prop} (m : Mv N N' H H') {d : D} {a : Addr} (h : OwnRep p C H N d a) (k : ∀ o, H a = some o → (∀ ps, o ≠ .tbl ps) → H' a = some o) : OwnRep p C H' N' d a := by
  cases d with
  | lst xs => obtain ⟨vs, e, l, r⟩ := h; exact ⟨vs, k _ e (fun _ => by simp), l, r.mv m⟩
  | dic xs => obtain ⟨vs, e, l, r⟩ := h; exact ⟨vs, k _ e (fun _ => by simp), l, RepK.mv m r⟩
  | _ => exact h.elim
theorem ER.own (E : ER p g σ env H) {i : Nat} {a : Addr} (h : OwnAt σ env i a) : ∃ d, env[i]? = some (.own d) ∧ OwnRep p g.C H (Nn g σ env) d a := by
  obtain ⟨⟨d, e⟩, hs⟩ := h
  obtain ⟨a', e1, r⟩ := E.slot i _ e
  rw [hs] at e1; cases e1
  exact ⟨d, e, r⟩
theorem ER.there (E : ER p g σ env H) {a : Addr} (h : Nn g σ env a) : Ob H a := by
  rcases h with h | ⟨i, h⟩
  · exact E.n0 a h
  · obtain ⟨d, _, r⟩ := E.own h
    rcases r.obj with ⟨_, e⟩ | ⟨_, e⟩ <;> exact ⟨_, e, fun _ => by simp⟩
theorem ER.nC (E : ER p g σ env H) : ∀ a, g.C a → Nn g σ env a := fun a c => .inl (g.hC a c)
theorem Step.mv (hc : ∀ a, C a → CupAt H a) (s : Step p C H H') {N : Addr → Prop} (hN : ∀ a, C a → N a) : Mv N N H H' := by
  have nc : ∀ b o, H b = some o → (∀ c d, o ≠ .lst [.int c, .int d]) → ¬ C b := fun b o h n c => by
    obtain ⟨x, y, e, _⟩ := hc b c
    rw [h] at e; cases e
    exact n _ _ rfl
  exact ⟨fun b o h n t _ => s.grow b o h (fun c => n (hN b c)) t, fun b xs h => s.grow b _ h (nc b _ h fun _ _ z => by cases z) (fun _ => by simp),
    fun b o u h => s.grow b _ h (nc b _ h fun _ _ z => by cases z) (fun _ => by simp), fun _ n _ => n⟩
theorem ER.mv (E : ER p g σ env H) (s : Step p g.C H H') : Mv (Nn g σ env) (Nn g σ env) H H' := s.mv E.cup E.nC
theorem ER.step (E : ER p g σ env H) (s : Step p g.C H H') : ER p g σ env H' where
  len := E.len
  keep := fun b o h n t => s.grow b o (E.keep b o h n t) n t
  dom := fun b h => s.dom b (E.dom b h)
  cup := s.cup
  tabs := s.tabs
  n0 := fun a h => s.dom a (E.n0 a h)
  slot := fun i x h => by
    have q := E.slot i x h
    cases x with
    | no => trivial
    | frz d => obtain ⟨v, e, r⟩ := q; exact ⟨v, e, r.mv (E.mv s)⟩
    | own d =>
      obtain ⟨a, e, r⟩ := q
      refine ⟨a, e, r.mv (E.mv s) fun o ho ht => s.grow a o ho (fun c => ?_) ht⟩
      exact (E.fresh i a ⟨⟨d, h⟩, e⟩).1 (g.hC a c)
  uniq := E.uniq
  fresh := E.fresh
  th := E.th
theorem ER.refl (E : ER p g σ env H) : Step p g.C H H := ⟨fun _ _ h _ _ => h, E.cup, E.tabs, fun _ h => h⟩
theorem Tabs.upd {a : Addr} {o : HO} (t : LamX.Tabs p.tb.l H) (h : H a = none) : LamX.Tabs p.tb.l (upd H a o) := t.ext fun b u e => by
  rw [upd_ne (ne_of_none e h)]; exact e
theorem Step.alloc {C : Addr → Prop} {a : Addr} {o : HO} (hc : ∀ a, C a → CupAt H a) (t : LamX.Tabs p.tb.l H) (h : H a = none) : Step p C H (upd H a o) where
  grow := fun b u e _ _ => by rw [upd_ne (ne_of_none e h)]; exact e
  cup := fun b c => by
    obtain ⟨x, y, e, q⟩ := hc b c
    exact ⟨x, y, by rw [upd_ne (ne_of_none e h)]; exact e, q⟩
  tabs := Tabs.upd t h
  dom := fun b ⟨u, e, t⟩ => ⟨u, by rw [upd_ne (ne_of_none e h)]; exact e, t⟩
theorem ER.alloc (E : ER p g σ env H) {a : Addr} {o : HO} (h : H a = none) : Step p g.C H (upd H a o) := Step.alloc E.cup E.tabs h

/-- an object of ours that no slot holds yet -/
def Gh.fl (g : Gh) (a : Addr) : Gh := { g with N0 := fun b => g.N0 b ∨ b = a, hC := fun b c => .inl (g.hC b c) }
theorem Nn.fl {a b : Addr} : Nn (g.fl a) σ env b ↔ Nn g σ env b ∨ b = a := by
  unfold Nn Gh.fl
  constructor
  · rintro ((h | h) | h)
    · exact .inl (.inl h)
    · exact .inr h
    · exact .inl (.inr h)
  · rintro ((h | h) | h)
    · exact .inl (.inl h)
    · exact .inr h
    · exact .inl (.inr h)
theorem ER.float (E : ER p g σ env H) {a : Addr} {o : HO} (h : H a = none) (ho : ∀ ps, o ≠ .tbl ps := by intro ps; simp) : ER p (g.fl a) σ env (upd H a o) := by
  have E1 := E.step (E.alloc (o := o) h)
  have hn : ¬ Nn g σ env a := fun z => nOb h (E.there z)
  have mv : Mv (Nn g σ env) (Nn (g.fl a) σ env) H (upd H a o) := by
    have m := E.mv (E.alloc (o := o) h)
    exact ⟨m.keep, m.tup, m.frz, fun b n hb z => by
      rcases Nn.fl.mp z with z | z
      · exact n z
      · subst z; exact nOb h hb⟩
  refine ⟨E1.len, E1.keep, E1.dom, E1.cup, E1.tabs, ?_, ?_, E1.uniq, ?_, E1.th⟩
  · rintro b (z | z)
    · exact E1.n0 b z
    · subst z; exact ⟨_, upd_same, ho⟩
  · intro i x hx
    have q := E.slot i x hx
    cases x with
    | no => trivial
    | frz d => obtain ⟨v, e, r⟩ := q; exact ⟨v, e, r.mv mv⟩
    | own d =>
      obtain ⟨b, e, r⟩ := q
      refine ⟨b, e, r.mv mv fun u hu _ => ?_⟩
      rw [upd_ne (ne_of_none hu h)]; exact hu
  · intro i b hb
    obtain ⟨z1, z2⟩ := E1.fresh i b hb
    refine ⟨?_, z2⟩
    rintro (z | z)
    · exact z1 z
    · subst z
      exact hn (.inr ⟨i, hb⟩)
theorem ER.sink {a : Addr} (E : ER p (g.fl a) σ env H) : ER p g σ env H := by
  have mv : Mv (Nn (g.fl a) σ env) (Nn g σ env) H H := Mv.sub fun b z => Nn.fl.mpr (.inl z)
  refine ⟨E.len, E.keep, E.dom, E.cup, E.tabs, fun b z => E.n0 b (.inl z), ?_, E.uniq, fun i b hb => ⟨fun z => (E.fresh i b hb).1 (.inl z), (E.fresh i b hb).2⟩, E.th⟩
  · intro i x hx
    have q := E.slot i x hx
    cases x with
    | no => trivial
    | frz d => obtain ⟨v, e, r⟩ := q; exact ⟨v, e, r.mv mv⟩
    | own d =>
      obtain ⟨b, e, r⟩ := q
      exact ⟨b, e, r.mv mv fun u hu _ => hu⟩

/-! ### slots set -/
theorem set_self_eq {α : Type} {l : List α} {i : Nat} {x y : α} (h : (l.set i x)[i]? = some y) : y = x := by
  by_cases hi : i < l.length
  · rw [List.getElem?_set_self hi] at h; exact (Option.some.inj h).symm
  · rw [List.getElem?_eq_none (by simpa using hi)] at h; cases h
theorem OwnAt.set {σ : St} {env : Env} {i j : Nat} {a : Addr} {v : Option V} {x : Sl} (hij : j ≠ i) : OwnAt (σ.set i v) (env.set i x) j a ↔ OwnAt σ env j a := by
  unfold OwnAt
  rw [List.getElem?_set_ne (Ne.symm hij), List.getElem?_set_ne (Ne.symm hij)]
theorem OwnAt.set_frz {σ : St} {env : Env} {i : Nat} {a : Addr} {v : Option V} {d : D} : ¬ OwnAt (σ.set i v) (env.set i (.frz d)) i a := by
  rintro ⟨⟨d', e⟩, _⟩
  cases set_self_eq e
theorem OwnAt.set_no {σ : St} {env : Env} {i : Nat} {a : Addr} {v : Option V} : ¬ OwnAt (σ.set i v) (env.set i .no) i a := by
  rintro ⟨⟨d', e⟩, _⟩
  cases set_self_eq e
theorem Nn.set_frz {i : Nat} {a : Addr} {v : Option V} {d : D} (h : Nn g (σ.set i v) (env.set i (.frz d)) a) : Nn g σ env a := by
  rcases h with h | ⟨j, h⟩
  · exact .inl h
  · by_cases hj : j = i
    · subst hj; exact (OwnAt.set_frz h).elim
    · exact .inr ⟨j, (OwnAt.set hj).mp h⟩
theorem Nn.set_no {i : Nat} {a : Addr} {v : Option V} (h : Nn g (σ.set i v) (env.set i .no) a) : Nn g σ env a := by
  rcases h with h | ⟨j, h⟩
  · exact .inl h
  · by_cases hj : j = i
    · subst hj; exact (OwnAt.set_no h).elim
    · exact .inr ⟨j, (OwnAt.set hj).mp h⟩
/-- a slot takes a frozen thing -/
theorem ER.setF (E : ER p g σ env H) {i : Nat} (hi : i < env.length) {d : D} {v : V} (r : Rep p g.C H (Nn g σ env) d v) : ER p g (σ.set i (some v)) (env.set i (.frz d)) H := by
  have mv : Mv (Nn g σ env) (Nn g (σ.set i (some v)) (env.set i (.frz d))) H H := Mv.sub fun b z => z.set_frz
  refine ⟨by simpa using E.len, E.keep, E.dom, E.cup, E.tabs, E.n0, ?_, ?_, ?_, E.th⟩
  · intro j x hx
    by_cases hj : j = i
    · subst hj
      rw [List.getElem?_set_self hi] at hx
      cases hx
      exact ⟨v, by rw [List.getElem?_set_self (by rw [E.len]; exact hi)], r.mv mv⟩
    · rw [List.getElem?_set_ne (Ne.symm hj)] at hx
      have q := E.slot j x hx
      cases x with
      | no => trivial
      | frz d => obtain ⟨w, e, r⟩ := q; exact ⟨w, by rw [List.getElem?_set_ne (Ne.symm hj)]; exact e, r.mv mv⟩
      | own d => obtain ⟨b, e, r⟩ := q; exact ⟨b, by rw [List.getElem?_set_ne (Ne.symm hj)]; exact e, r.mv mv fun u hu _ => hu⟩
  · intro j k b h1 h2
    by_cases hj : j = i
    · subst hj; exact (OwnAt.set_frz h1).elim
    · by_cases hk : k = i
      · subst hk; exact (OwnAt.set_frz h2).elim
      · exact E.uniq j k b ((OwnAt.set hj).mp h1) ((OwnAt.set hk).mp h2)
  · intro j b h1
    by_cases hj : j = i
    · subst hj; exact (OwnAt.set_frz h1).elim
    · exact E.fresh j b ((OwnAt.set hj).mp h1)
/-- a slot is forgotten -/
theorem ER.setN (E : ER p g σ env H) {i : Nat} {v : Option V} : ER p g (σ.set i v) (env.set i .no) H := by
  have mv : Mv (Nn g σ env) (Nn g (σ.set i v) (env.set i .no)) H H := Mv.sub fun b z => z.set_no
  refine ⟨by simpa using E.len, E.keep, E.dom, E.cup, E.tabs, E.n0, ?_, ?_, ?_, E.th⟩
  · intro j x hx
    by_cases hj : j = i
    · subst hj
      cases set_self_eq hx
      trivial
    · rw [List.getElem?_set_ne (Ne.symm hj)] at hx
      have q := E.slot j x hx
      cases x with
      | no => trivial
      | frz d => obtain ⟨w, e, r⟩ := q; exact ⟨w, by rw [List.getElem?_set_ne (Ne.symm hj)]; exact e, r.mv mv⟩
      | own d => obtain ⟨b, e, r⟩ := q; exact ⟨b, by rw [List.getElem?_set_ne (Ne.symm hj)]; exact e, r.mv mv fun u hu _ => hu⟩
  · intro j k b h1 h2
    by_cases hj : j = i
    · subst hj; exact (OwnAt.set_no h1).elim
    · by_cases hk : k = i
      · subst hk; exact (OwnAt.set_no h2).elim
      · exact E.uniq j k b ((OwnAt.set hj).mp h1) ((OwnAt.set hk).mp h2)
  · intro j b h1
    by_cases hj : j = i
    · subst hj; exact (OwnAt.set_no h1).elim
    · exact E.fresh j b ((OwnAt.set hj).mp h1)
theorem Nn.set_own {i : Nat} {a b : Addr} {d : D} (h : Nn g (σ.set i (some (.ref a))) (env.set i (.own d)) b) : Nn (g.fl a) σ env b := by
  rw [Nn.fl]
  rcases h with h | ⟨j, h⟩
  · exact .inl (.inl h)
  · by_cases hj : j = i
    · subst hj
      obtain ⟨_, e⟩ := h
      cases set_self_eq e
      exact .inr rfl
    · exact .inl (.inr ⟨j, (OwnAt.set hj).mp h⟩)
/-- a slot takes what floats -/
theorem ER.setO {a : Addr} (E : ER p (g.fl a) σ env H) {i : Nat} (hi : i < env.length) {d : D} (hn : ¬ g.N0 a) (h0 : ¬ Ob g.H0 a) (r : OwnRep p g.C H (Nn (g.fl a) σ env) d a) :
    ER p g (σ.set i (some (.ref a))) (env.set i (.own d)) H := by
  have mv : Mv (Nn (g.fl a) σ env) (Nn g (σ.set i (some (.ref a))) (env.set i (.own d))) H H := Mv.sub fun b z => z.set_own
  have at_i : ∀ b, OwnAt (σ.set i (some (.ref a))) (env.set i (.own d)) i b → b = a := fun b ⟨_, e⟩ => by
    cases set_self_eq e
    rfl
  have ne : ∀ j b, OwnAt σ env j b → b ≠ a := fun j b h z => (E.fresh j b h).1 (.inr z)
  refine ⟨by simpa using E.len, E.keep, E.dom, E.cup, E.tabs, fun b z => E.n0 b (.inl z), ?_, ?_, ?_, E.th⟩
  · intro j x hx
    by_cases hj : j = i
    · subst hj
      rw [List.getElem?_set_self hi] at hx
      cases hx
      exact ⟨a, by rw [List.getElem?_set_self (by rw [E.len]; exact hi)], r.mv mv fun u hu _ => hu⟩
    · rw [List.getElem?_set_ne (Ne.symm hj)] at hx
      have q := E.slot j x hx
      cases x with
      | no => trivial
      | frz d => obtain ⟨w, e, r⟩ := q; exact ⟨w, by rw [List.getElem?_set_ne (Ne.symm hj)]; exact e, r.mv mv⟩
      | own d => obtain ⟨b, e, r⟩ := q; exact ⟨b, by rw [List.getElem?_set_ne (Ne.symm hj)]; exact e, r.mv mv fun u hu _ => hu⟩
  · intro j k b h1 h2
    by_cases hj : j = i
    · subst hj
      by_cases hk : k = j
      · exact hk.symm
      · exact (ne k b ((OwnAt.set hk).mp h2) (at_i b h1)).elim
    · by_cases hk : k = i
      · subst hk; exact (ne j b ((OwnAt.set hj).mp h1) (at_i b h2)).elim
      · exact E.uniq j k b ((OwnAt.set hj).mp h1) ((OwnAt.set hk).mp h2)
  · intro j b h1
    by_cases hj : j = i
    · subst hj
      have z := at_i b h1
      subst z
      exact ⟨hn, h0⟩
    · have q := E.fresh j b ((OwnAt.set hj).mp h1)
      exact ⟨fun z => q.1 (.inl z), q.2⟩
/-- what floats is let go -/
theorem Rep.of_own {a : Addr} {C : Addr → Prop} {N N' : Addr → Prop} {d : D} (r : OwnRep p C H N d a) (hs : ∀ b, N' b → N b) (hn : ¬ N' a) : Rep p C H N' d (.ref a) := by
  cases d with
  | lst xs => obtain ⟨vs, e, l, q⟩ := r; simp only [Rep]; exact ⟨a, vs, rfl, hn, e, l, q.mv (Mv.sub hs)⟩
  | dic xs => obtain ⟨vs, e, l, q⟩ := r; simp only [Rep]; exact ⟨a, vs, rfl, hn, e, l, RepK.mv (Mv.sub hs) q⟩
  | _ => exact r.elim
/-- what a slot owns is let go -/
theorem ER.freeze (E : ER p g σ env H) {i : Nat} {d : D} (h : env[i]? = some (.own d)) : ER p g σ (env.set i (.frz d)) H := by
  obtain ⟨a, hs, r⟩ := E.slot i _ h
  have hi : i < env.length := (List.getElem?_eq_some_iff.mp h).1
  have hσ : σ.set i (some (.ref a)) = σ := by
    apply List.ext_getElem?
    intro j
    rw [List.getElem?_set]
    split
    · rename_i e; subst e
      have : i < σ.length := by rw [E.len]; exact hi
      rw [if_pos this, hs]
    · rfl
  have hoi : OwnAt σ env i a := ⟨⟨d, h⟩, hs⟩
  have hN : ∀ b, Nn g σ (env.set i (.frz d)) b → Nn g σ env b := fun b z => by
    rw [← hσ] at z
    exact z.set_frz
  have mv : Mv (Nn g σ env) (Nn g σ (env.set i (.frz d))) H H := Mv.sub hN
  have own' : ∀ j b, OwnAt σ (env.set i (.frz d)) j b → j ≠ i ∧ OwnAt σ env j b := fun j b z => by
    rw [← hσ] at z
    by_cases hj : j = i
    · subst hj; exact (OwnAt.set_frz z).elim
    · exact ⟨hj, (OwnAt.set hj).mp z⟩
  refine ⟨by simpa using E.len, E.keep, E.dom, E.cup, E.tabs, E.n0, ?_, ?_, ?_, E.th⟩
  · intro j x hx
    by_cases hj : j = i
    · subst hj
      rw [List.getElem?_set_self hi] at hx
      cases hx
      refine ⟨.ref a, hs, Rep.of_own r hN ?_⟩
      rintro (z | ⟨k, z⟩)
      · exact (E.fresh j a hoi).1 z
      · obtain ⟨hk, z⟩ := own' k a z
        exact hk (E.uniq k j a z hoi)
    · rw [List.getElem?_set_ne (Ne.symm hj)] at hx
      have q := E.slot j x hx
      cases x with
      | no => trivial
      | frz d => obtain ⟨w, e, r⟩ := q; exact ⟨w, e, r.mv mv⟩
      | own d => obtain ⟨b, e, r⟩ := q; exact ⟨b, e, r.mv mv fun u hu _ => hu⟩
  · intro j k b h1 h2
    exact E.uniq j k b (own' j b h1).2 (own' k b h2).2
  · intro j b h1
    exact E.fresh j b (own' j b h1).2
/-- what a slot owns is written -/
theorem ER.write (E : ER p g σ env H) {i : Nat} {d d' : D} {a : Addr} {o : HO} (h : env[i]? = some (.own d)) (hs : σ[i]? = some (some (.ref a))) (ho : ∀ ps, o ≠ .tbl ps)
    (r : Mv (Nn g σ env) (Nn g σ env) H (upd H a o) → OwnRep p g.C (upd H a o) (Nn g σ env) d' a) : ER p g σ (env.set i (.own d')) (upd H a o) := by
  have hi : i < env.length := (List.getElem?_eq_some_iff.mp h).1
  have hoi : OwnAt σ env i a := ⟨⟨d, h⟩, hs⟩
  obtain ⟨d0, _, r0⟩ := E.own hoi
  have kind : (∃ vs, H a = some (.lst vs)) ∨ ∃ kws, H a = some (.dK kws) := r0.obj
  have nka : ∀ u, H a = some u → (∃ vs, u = .lst vs) ∨ ∃ kws, u = .dK kws := fun u hu => by
    rcases kind with ⟨vs, e⟩ | ⟨kws, e⟩ <;> rw [hu] at e <;> cases e
    · exact .inl ⟨vs, rfl⟩
    · exact .inr ⟨kws, rfl⟩
  have own' : ∀ j b, OwnAt σ (env.set i (.own d')) j b ↔ OwnAt σ env j b := fun j b => by
    unfold OwnAt
    by_cases hj : j = i
    · subst hj
      rw [List.getElem?_set_self hi, h]
      constructor
      · rintro ⟨_, e⟩; exact ⟨⟨d, rfl⟩, e⟩
      · rintro ⟨_, e⟩; exact ⟨⟨d', rfl⟩, e⟩
    · rw [List.getElem?_set_ne (Ne.symm hj)]
  have hN : ∀ b, Nn g σ (env.set i (.own d')) b ↔ Nn g σ env b := fun b => by
    unfold Nn
    constructor
    · rintro (z | ⟨j, z⟩)
      · exact .inl z
      · exact .inr ⟨j, (own' j b).mp z⟩
    · rintro (z | ⟨j, z⟩)
      · exact .inl z
      · exact .inr ⟨j, (own' j b).mpr z⟩
  have hNe : Nn g σ (env.set i (.own d')) = Nn g σ env := funext fun b => propext (hN b)
  have hNa : Nn g σ env a := .inr ⟨i, hoi⟩
  have oth : ∀ b u, H b = some u → (∀ vs, u ≠ .lst vs) → (∀ kws, u ≠ .dK kws) → upd H a o b = some u := fun b u hu n1 n2 => by
    rw [upd_ne]
    · exact hu
    · rintro rfl
      rcases nka u hu with ⟨_, z⟩ | ⟨_, z⟩
      · exact n1 _ z
      · exact n2 _ z
  have mv : Mv (Nn g σ env) (Nn g σ env) H (upd H a o) := ⟨fun b u hu n _ _ => by
      rw [upd_ne (show b ≠ a from fun z => n (by rw [z]; exact hNa))]; exact hu, fun b xs hb => oth b _ hb (fun _ => by simp) (fun _ => by simp), fun b u w hb => oth b _ hb (fun _ => by simp) (fun _ => by simp), fun _ n _ => n⟩
  have dm : ∀ b, Ob H b → Ob (upd H a o) b := fun b ⟨u, e, t⟩ => by
    by_cases z : b = a
    · subst z; exact ⟨o, upd_same, ho⟩
    · exact ⟨u, by rw [upd_ne z]; exact e, t⟩
  have fr := E.fresh i a hoi
  refine ⟨by simpa using E.len, fun b u hu n t => ?_, fun b hb => dm b (E.dom b hb), fun b c => ?_, ?_, fun b z => dm b (E.n0 b z), ?_, ?_, ?_, E.th⟩
  · have z : b ≠ a := fun z => fr.2 ⟨u, by rw [← z]; exact hu, t⟩
    rw [upd_ne z]; exact E.keep b u hu n t
  · obtain ⟨x, y, e, q⟩ := E.cup b c
    refine ⟨x, y, ?_, q⟩
    rw [upd_ne (show b ≠ a from fun z => fr.1 (by rw [← z]; exact g.hC b c))]; exact e
  · intro q hq
    obtain ⟨ps, hps, tr, hc⟩ := E.tabs q hq
    refine ⟨ps, oth _ _ hps (fun _ => by simp) (fun _ => by simp), tr, fun pos cv hcv => ?_⟩
    obtain ⟨c, e, hc⟩ := hc pos cv hcv
    exact ⟨c, e, oth _ _ hc (fun _ => by simp [LamX.CodeO]) (fun _ => by simp [LamX.CodeO])⟩
  · intro j x hx
    rw [show SlOk p g σ (env.set i (.own d')) (upd H a o) j x = SlOk p g σ env (upd H a o) j x from by unfold SlOk; rw [hNe]]
    by_cases hj : j = i
    · subst hj
      rw [List.getElem?_set_self hi] at hx
      cases hx
      exact ⟨a, hs, r mv⟩
    · rw [List.getElem?_set_ne (Ne.symm hj)] at hx
      have q := E.slot j x hx
      cases x with
      | no => trivial
      | frz d => obtain ⟨w, e, r⟩ := q; exact ⟨w, e, r.mv mv⟩
      | own d2 =>
        obtain ⟨b, e, r⟩ := q
        refine ⟨b, e, r.mv mv fun u hu _ => ?_⟩
        rw [upd_ne]
        · exact hu
        · rintro rfl
          exact hj (E.uniq j i _ ⟨⟨d2, hx⟩, e⟩ hoi)
  · intro j k b h1 h2
    exact E.uniq j k b ((own' j b).mp h1) ((own' k b).mp h2)
  · intro j b h1
    exact E.fresh j b ((own' j b).mp h1)
end

/-! ### what a statement leaves of the heap -/
structure SStep (g : Gh) (σ : St) (env : Env) (H : Hp) (σ' : St) (env' : Env) (H' : Hp) : Prop where
  pers : ∀ b o, H b = some o → ¬ Nn g σ env b → (∀ ps, o ≠ .tbl ps) → (∀ xs, o ≠ .tup xs) → H' b = some o
  tup : ∀ b xs, H b = some (.tup xs) → H' b = some (.tup xs)
  frz : ∀ b o u, H b = some (.frz o u) → H' b = some (.frz o u)
  dom : ∀ b, Ob H b → Ob H' b
  nn : ∀ b, ¬ Nn g σ env b → Ob H b → ¬ Nn g σ' env' b
section
variable {p : Pg} {g : Gh} {σ σ1 σ2 : St} {env env1 env2 : Env} {H H1 H2 : Hp}
theorem SStep.mv (s : SStep g σ env H σ1 env1 H1) : Mv (Nn g σ env) (Nn g σ1 env1) H H1 := ⟨s.pers, s.tup, s.frz, s.nn⟩
theorem SStep.trans (a : SStep g σ env H σ1 env1 H1) (b : SStep g σ1 env1 H1 σ2 env2 H2) : SStep g σ env H σ2 env2 H2 :=
  let m := a.mv.trans b.mv a.dom
  ⟨m.keep, m.tup, m.frz, fun c h => b.dom c (a.dom c h), m.nn⟩
theorem Step.s (E : ER p g σ env H) (s : Step p g.C H H1) : SStep g σ env H σ env H1 :=
  let m := E.mv s
  ⟨m.keep, m.tup, m.frz, s.dom, m.nn⟩
theorem SStep.refl : SStep g σ env H σ env H := ⟨fun _ _ h _ _ _ => h, fun _ _ h => h, fun _ _ _ h => h, fun _ h => h, fun _ n _ => n⟩
theorem SStep.sub (h : ∀ b, Ob H b → Nn g σ1 env1 b → Nn g σ env b) : SStep g σ env H σ1 env1 H := ⟨fun _ _ h _ _ _ => h, fun _ _ h => h, fun _ _ _ h => h, fun _ h => h, fun b n hb z => n (h b hb z)⟩
end
end MM

namespace MM
open PySem PySem.Spec L2

/-! ### the judgements -/
abbrev pgOf (X : Cx) (tb : Tb) : Pg := ⟨X.K, X.mg, tb⟩
def ofO {α : Type} : Option α → T α
  | some a => .ret a
  | none => .bad
/-- how an exception lies -/
def ExR (p : Pg) (C : Addr → Prop) (H : Hp) (x : Ex) (cls : Value) (dx : Option Addr) : Prop :=
  p.mg x.cls = some cls ∧ match x.fld with
    | none => True
    | some (f, d) => ∃ a fs v, dx = some a ∧ H a = some (.xd fs) ∧ fs.lookup f = some v ∧ Rep p C H (fun _ => False) d v
def XP (p : Pg) (g : Gh) (σ : St) (H : Hp) (W : WX) : Ex → Prop := fun x => ∀ cls dx H', Step p g.C H H' → ExR p g.C H' x cls dx → W cls dx σ H'
def XPs (p : Pg) (g : Gh) (σ : St) (env : Env) (H : Hp) (W : WX) : Ex → Prop := fun x => ∀ cls dx σ' env' H', ER p g σ' env' H' → SStep g σ env H σ' env' H' → ExR p g.C H' x cls dx → W cls dx σ' H'
def ImpE (p : Pg) (W : WX) (t : TE) (f : Env → T D) : Prop := ∀ g σ env H (Q : VK), ER p g σ env H →
  (f env).wp (fun d => ∀ v H', Step p g.C H H' → Rep p g.C H' (Nn g σ env) d v → Q v H') (XP p g σ H W) → t σ H Q
def ImpP (p : Pg) (W : WX) (t : TE) (f : Env → T D) : Prop := ∀ g σ env H (Q : VK), ER p g σ env H →
  (f env).wp (fun d => ∀ v H', Step p g.C H H' → RepP p g.C H' (Nn g σ env) d v → Q v H') (XP p g σ H W) → t σ H Q
def ImpT (p : Pg) (W : WX) (t : TT) (f : Env → T Bool) : Prop := ∀ g σ env H (Q : Bool → Hp → Prop), ER p g σ env H →
  (f env).wp (fun b => ∀ H', Step p g.C H H' → Q b H') (XP p g σ H W) → t σ H Q
def ImpA (p : Pg) (W : WX) (t : TA) (f : Env → T (List D)) : Prop := ∀ g σ env H (Q : List V → Hp → Prop), ER p g σ env H →
  (f env).wp (fun ds => ∀ vs H', Step p g.C H H' → RepL p g.C H' (Nn g σ env) ds vs → Q vs H') (XP p g σ H W) → t σ H Q
/-- an expression whose value nobody else holds: it floats -/
def ImpO (p : Pg) (W : WX) (t : TE) (f : Env → T D) : Prop := ∀ g σ env H (Q : VK), ER p g σ env H →
  (f env).wp (fun d => ∀ a H', Step p g.C H H' → ER p (g.fl a) σ env H' → ¬ g.N0 a → ¬ Ob g.H0 a → ¬ Ob H a → OwnRep p g.C H' (Nn (g.fl a) σ env) d a → Q (.ref a) H') (XP p g σ H W) → t σ H Q
section
variable (X : Cx) (tb : Tb) (W : WX)
structure QE (e : Expr) (f : Env → T D) : Prop where
  ex : ∃ t, PE X e t ∧ ImpE (pgOf X tb) W t f
structure QP (e : Expr) (f : Env → T D) : Prop where
  ex : ∃ t, PE X e t ∧ ImpP (pgOf X tb) W t f
structure QO (e : Expr) (f : Env → T D) : Prop where
  ex : ∃ t, PE X e t ∧ ImpO (pgOf X tb) W t f
structure QT (e : Expr) (f : Env → T Bool) : Prop where
  ex : ∃ t, PT X e t ∧ ImpT (pgOf X tb) W t f
structure QW (e : Expr) (f : Env → T Bool) : Prop where
  ex : ∃ t, PW X e t ∧ ImpT (pgOf X tb) W t f
structure QA (es : List Expr) (f : Env → T (List D)) : Prop where
  ex : ∃ t, PA X es t ∧ ImpA (pgOf X tb) W t f
end
inductive Fl where
  | nx (env : Env) | rt (d : D) | bk (env : Env) | ct (env : Env)
def FlP (p : Pg) (g : Gh) (σ : St) (env : Env) (H : Hp) (Dn : Ends) : Fl → Prop
  | .nx e' => ∀ σ' H', ER p g σ' e' H' → SStep g σ env H σ' e' H' → Dn.nx σ' H'
  | .bk e' => ∀ σ' H', ER p g σ' e' H' → SStep g σ env H σ' e' H' → Dn.bk σ' H'
  | .ct e' => ∀ σ' H', ER p g σ' e' H' → SStep g σ env H σ' e' H' → Dn.ct σ' H'
  | .rt d => ∀ v σ' e' H', ER p g σ' e' H' → SStep g σ env H σ' e' H' → Rep p g.C H' g.N0 d v → Dn.rt v H'
def ImpS (p : Pg) (W : WX) (t : TS) (f : Env → T Fl) : Prop := ∀ g σ env H (Dn : Ends), ER p g σ env H →
  (f env).wp (FlP p g σ env H Dn) (XPs p g σ env H W) → t Dn σ H
structure QS (X : Cx) (tb : Tb) (W : WX) (st : Stmt) (f : Env → T Fl) : Prop where
  ex : ∃ t, PS X st t ∧ ImpS (pgOf X tb) W t f
structure QB (X : Cx) (tb : Tb) (W : WX) (st : List Stmt) (f : Env → T Fl) : Prop where
  ex : ∃ t, PSs X st t ∧ ImpS (pgOf X tb) W t f

section
variable {X : Cx} {tb : Tb} {W : WX} {pos : Pos}
/-! ### coercions -/
theorem QE.p {e : Expr} {f : Env → T D} (h : QE X tb W e f) : QP X tb W e f := by
  obtain ⟨t, h1, h2⟩ := h.ex
  exact ⟨t, h1, fun g σ env H Q E hw => h2 g σ env H Q E (T.wp_mono (fun d q v H' s r => q v H' s (r.p E.nC)) (fun _ x => x) hw)⟩
theorem QO.e {e : Expr} {f : Env → T D} (h : QO X tb W e f) : QE X tb W e f := by
  obtain ⟨t, h1, h2⟩ := h.ex
  refine ⟨t, h1, fun g σ env H Q E hw => h2 g σ env H Q E (T.wp_mono (fun d q a H' s E' n0 h0 hf r => ?_) (fun _ x => x) hw)⟩
  refine q (.ref a) H' s (Rep.of_own r (fun b z => Nn.fl.mpr (.inl z)) ?_)
  rintro (z | ⟨i, z⟩)
  · exact n0 z
  · exact (E'.fresh i a z).1 (.inr rfl)
theorem QW.t {e : Expr} {f : Env → T Bool} (h : QW X tb W e f) : QT X tb W e f := by
  obtain ⟨t, h1, h2⟩ := h.ex
  exact ⟨t, h1.pt, h2⟩

/-! ### names, constants -/
def eVar (i : Nat) : Env → T D := fun env => match env[i]? with
  | some (.frz d) => .ret d
  | _ => .bad
def pVar (i : Nat) : Env → T D := fun env => match env[i]? with
  | some (.frz d) => .ret d
  | some (.own d) => .ret d
  | _ => .bad
def eC (d : D) : Env → T D := fun _ => .ret d
theorem qe_var (i : Nat) {x : Str} (hN : X.N[i]? = some x := by rfl) (hv : Vis X.env.scope x := by first | exact Or.inl rfl | exact Or.inr (Or.inl rfl) | exact Or.inr (Or.inr rfl)) (hd : (x == ("__debug__" : Str)) = false := by decide)
    (hcd : (x == ("__classdict__" : Str)) = false := by decide) : QE X tb W (.Name x pos) (eVar i) := by
  refine ⟨tVar i, pe_var hN hv hd hcd, fun g σ env H Q E hw => ?_⟩
  unfold eVar at hw
  split at hw
  · rename_i d h
    obtain ⟨v, e, r⟩ := E.slot i _ h
    exact ⟨v, e, hw v H E.refl r⟩
  · exact hw.elim
theorem qp_var (i : Nat) {x : Str} (hN : X.N[i]? = some x := by rfl) (hv : Vis X.env.scope x := by first | exact Or.inl rfl | exact Or.inr (Or.inl rfl) | exact Or.inr (Or.inr rfl)) (hd : (x == ("__debug__" : Str)) = false := by decide)
    (hcd : (x == ("__classdict__" : Str)) = false := by decide) : QP X tb W (.Name x pos) (pVar i) := by
  refine ⟨tVar i, pe_var hN hv hd hcd, fun g σ env H Q E hw => ?_⟩
  unfold pVar at hw
  split at hw
  · rename_i d h
    obtain ⟨v, e, r⟩ := E.slot i _ h
    exact ⟨v, e, hw v H E.refl (r.p E.nC)⟩
  · rename_i d h
    obtain ⟨a, e, r⟩ := E.slot i _ h
    refine ⟨.ref a, e, hw _ H E.refl ?_⟩
    have nc : ¬ g.C a := fun c => (E.fresh i a ⟨⟨d, h⟩, e⟩).1 (g.hC a c)
    cases d with
    | lst xs => obtain ⟨vs, e1, l, q⟩ := r; exact ⟨a, vs, rfl, nc, e1, l, q⟩
    | dic xs => obtain ⟨vs, e1, l, q⟩ := r; exact ⟨a, vs, rfl, nc, e1, l, q⟩
    | _ => exact r.elim
  · exact hw.elim
theorem qe_c {e : Expr} {v : V} {d : D} (h : PE X e (tC v)) (r : ∀ g H N, Rep (pgOf X tb) g H N d v) : QE X tb W e (eC d) :=
  ⟨tC v, h, fun g σ env H Q E hw => hw v H E.refl (r _ _ _)⟩
theorem qe_int {i j} : QE X tb W (.Constant (.int i) j pos) (eC (.int i)) := qe_c pe_int fun _ _ _ => by simp [Rep]
theorem qe_bl {b j} : QE X tb W (.Constant (.bool b) j pos) (eC (.bl b)) := qe_c pe_bl fun _ _ _ => by simp [Rep]
theorem qe_non {j} : QE X tb W (.Constant .none j pos) (eC .non) := qe_c pe_non fun _ _ _ => by simp [Rep]
def okS (s : List Nat) : Bool := s.all (· < 0x110000) && decide (s.length ≤ 16777216)
theorem okS_iff {s : List Nat} (h : okS s = true) : (∀ c ∈ s, c < 0x110000) ∧ s.length ≤ sizeLine := by
  unfold okS at h
  simp only [Bool.and_eq_true, List.all_eq_true, decide_eq_true_eq] at h
  exact ⟨h.1, by rw [sizeLine_eq]; exact h.2⟩
theorem qe_str {x : Str} {j} (s : List Nat) (hx : (x.cps.toList == s && okS s) = true := by decide +kernel) : QE X tb W (.Constant (.str x) j pos) (eC (.str s)) := by
  simp only [Bool.and_eq_true, beq_iff_eq] at hx
  obtain ⟨h1, h2⟩ := hx
  refine qe_c pe_str fun _ _ _ => ?_
  simp only [Rep]
  refine ⟨?_, okS_iff h2⟩
  subst h1
  simp [sl]

/-! ### sequencing helper -/
theorem wpStep {p : Pg} {g : Gh} {σ : St} {H : Hp} {W : WX} {H1 : Hp} (s : Step p g.C H H1) : ∀ x, XP p g σ H W x → XP p g σ H1 W x := fun x h cls dx H' s' r => h cls dx H' (s.trans s') r

/-! ### operators by their rules -/
theorem RepP.step {p : Pg} {g : Gh} {σ : St} {env : Env} {H H' : Hp} {d : D} {v : V} (E : ER p g σ env H) (s : Step p g.C H H') (h : RepP p g.C H (Nn g σ env) d v) : RepP p g.C H' (Nn g σ env) d v := by
  cases d with
  | lst xs =>
    obtain ⟨a, vs, e, nc, r, l, q⟩ := h
    exact ⟨a, vs, e, nc, s.grow _ _ r nc (fun _ => by simp), l, q.mv (E.mv s)⟩
  | dic xs =>
    obtain ⟨a, vs, e, nc, r, l, q⟩ := h
    exact ⟨a, vs, e, nc, s.grow _ _ r nc (fun _ => by simp), l, RepK.mv (E.mv s) q⟩
  | _ => exact Rep.mv (E.mv s) h
theorem RepPs.step {p : Pg} {g : Gh} {σ : St} {env : Env} {H H' : Hp} (E : ER p g σ env H) (s : Step p g.C H H') : ∀ {d : List D} {v : List V}, RepPs p g.C H (Nn g σ env) d v → RepPs p g.C H' (Nn g σ env) d v
  | [], _, h => h
  | d :: ds, vs, h => by
    obtain ⟨v, ws, e, r, q⟩ := h
    exact ⟨v, ws, e, r.step E s, RepPs.step E s q⟩
theorem wpDone {p : Pg} {g : Gh} {σ : St} {env : Env} {H H1 : Hp} {Q : VK} {d : D} (s : Step p g.C H H1) (q : ∀ v H', Step p g.C H H' → Rep p g.C H' (Nn g σ env) d v → Q v H') : ∀ v H', Step p g.C H1 H' → Rep p g.C H' (Nn g σ env) d v → Q v H' :=
  fun v H' s' r => q v H' (s.trans s') r
/-- what a rule by values answers, for data -/
def R2I (X : Cx) (tb : Tb) (r : R2) (F : D → D → Option D) : Prop := ∀ g σ env H (Q : VK) x y vx vy d, ER (pgOf X tb) g σ env H → RepP (pgOf X tb) g.C H (Nn g σ env) x vx → RepP (pgOf X tb) g.C H (Nn g σ env) y vy → F x y = some d →
  (∀ v H', Step (pgOf X tb) g.C H H' → Rep (pgOf X tb) g.C H' (Nn g σ env) d v → Q v H') → r vx vy H Q
def e2 (F : D → D → Option D) (f1 f2 : Env → T D) : Env → T D := fun env => (f1 env).bind fun x => (f2 env).bind fun y => ofO (F x y)
theorem imp2 {r : R2} {F : D → D → Option D} {ta tb' : TE} {f1 f2 : Env → T D} (hr : R2I X tb r F) (h1 : ImpP (pgOf X tb) W ta f1) (h2 : ImpP (pgOf X tb) W tb' f2) : ImpE (pgOf X tb) W (tOp r ta tb') (e2 F f1 f2) := fun g σ env H Q E hw => by
  unfold e2 at hw
  rw [T.wp_bind] at hw
  refine h1 g σ env H _ E (T.wp_mono (fun x q vx H1 s1 r1 => ?_) (fun _ z => z) hw)
  rw [T.wp_bind] at q
  have E1 := E.step s1
  refine h2 g σ env H1 _ E1 (T.wp_mono (fun y q vy H2 s2 r2 => ?_) (wpStep s1) q)
  have E2 := E1.step s2
  cases hF : F x y with
  | none => rw [hF] at q; exact q.elim
  | some d =>
    rw [hF] at q
    exact hr g σ env H2 Q x y vx vy d E2 (r1.step E1 s2) r2 hF (wpDone (s1.trans s2) q)
theorem qe_bin {op : Operator} {r : R2} {F : D → D → Option D} {a b : Expr} {f1 f2 : Env → T D} (ho : OpR X (binaryOp op) r) (hr : R2I X tb r F) (h1 : QP X tb W a f1) (h2 : QP X tb W b f2) : QE X tb W (.BinOp a op b pos) (e2 F f1 f2) := by
  obtain ⟨t1, p1, i1⟩ := h1.ex
  obtain ⟨t2, p2, i2⟩ := h2.ex
  exact ⟨_, pe_op ho p1 p2, imp2 hr i1 i2⟩
theorem qe_cmp {op : CmpOp} {r : R2} {F : D → D → Option D} {a b : Expr} {f1 f2 : Env → T D} (ho : OpR X (compareOp op) r) (hr : R2I X tb r F) (h1 : QP X tb W a f1) (h2 : QP X tb W b f2) (hm : behindInMarks op b = false := by first | exact nomark _ | rfl) : QE X tb W (.Compare a [op] [b] pos) (e2 F f1 f2) := by
  obtain ⟨t1, p1, i1⟩ := h1.ex
  obtain ⟨t2, p2, i2⟩ := h2.ex
  exact ⟨_, pe_cmpR ho p1 p2 hm, imp2 hr i1 i2⟩
/-- alternatives -/
theorem R2I.or {r r' : R2} {F G : D → D → Option D} (h : R2I X tb r F) (h' : R2I X tb r' G) (sel : D → D → Bool) : R2I X tb (fun x y H Q => r x y H Q ∨ r' x y H Q) (fun x y => if sel x y then F x y else G x y) := fun g σ env H Q x y vx vy d E rx ry e q => by
  dsimp only at e
  split at e
  · exact .inl (h g σ env H Q x y vx vy d E rx ry e q)
  · exact .inr (h' g σ env H Q x y vx vy d E rx ry e q)

/-! ### ints -/
def iI (C : Int → Int → Bool) (k : Int → Int → D) : D → D → Option D
  | .int i, .int j => if C i j then some (k i j) else none
  | _, _ => none
theorem r2_int {C : Int → Int → Prop} {k : Int → Int → V} {Cb : Int → Int → Bool} {kd : Int → Int → D} (hC : ∀ i j, Cb i j = true → C i j) (hk : ∀ p c H N i j, Rep p c H N (kd i j) (k i j)) : R2I X tb (rI C k) (iI Cb kd) := fun g σ env H Q x y vx vy d E rx ry e q => by
  unfold iI at e
  split at e
  · rename_i i j
    split at e
    · rename_i hc
      cases e
      simp only [RepP, Rep] at rx ry
      exact ⟨i, j, rx, ry, hC i j hc, q _ H E.refl (hk _ _ _ _ i j)⟩
    · cases e
  · cases e
theorem r2_int0 {k : Int → Int → V} {kd : Int → Int → D} (hk : ∀ p c H N i j, Rep p c H N (kd i j) (k i j)) : R2I X tb (rI0 k) (iI (fun _ _ => true) kd) := fun g σ env H Q x y vx vy d E rx ry e q => by
  unfold iI at e
  split at e
  · rename_i i j
    rw [if_pos rfl] at e
    cases e
    simp only [RepP, Rep] at rx ry
    exact ⟨i, j, rx, ry, q _ H E.refl (hk _ _ _ _ i j)⟩
  · cases e
/-! ### texts -/
def sS (k : List Nat → List Nat → Option D) : D → D → Option D
  | .str i, .str j => k i j
  | _, _ => none
end
end MM

namespace MM
open PySem PySem.Spec L2

/-! ### data compared -/
mutual
def D.toPy : D → PyData
  | .non => .none
  | .bl b => .bool b
  | .int i => .int i
  | .str s => .str (sl s)
  | .lst xs => .list (toPyL xs)
  | .tup xs => .tuple (toPyL xs)
  | .dic _ => .none
  | .cup => .none
  | .fn _ => .none
  | .ty _ => .none
def toPyL : List D → List PyData
  | [] => []
  | d :: ds => d.toPy :: toPyL ds
end
mutual
/-- whether data that == reads, of depth at most n -/
def D.okN : Nat → D → Bool
  | _, .non => true
  | _, .bl _ => true
  | _, .int _ => true
  | _, .str _ => true
  | 0, .lst _ => false
  | 0, .tup _ => false
  | n + 1, .lst xs => okNL n xs
  | n + 1, .tup xs => okNL n xs
  | _, .dic _ => false
  | _, .cup => false
  | _, .fn _ => false
  | _, .ty _ => false
def okNL : Nat → List D → Bool
  | _, [] => true
  | n, d :: ds => d.okN n && okNL n ds
end
def eqNats : List Nat → List Nat → Bool
  | [], [] => true
  | a :: as, b :: bs => Nat.beq a b && eqNats as bs
  | _, _ => false
theorem eqNats_eq : ∀ {a b : List Nat}, eqNats a b = decide (a = b)
  | [], [] => by simp [eqNats]
  | [], _ :: _ => by simp [eqNats]
  | _ :: _, [] => by simp [eqNats]
  | a :: as, b :: bs => by
    have h : Nat.beq a b = decide (a = b) := by
      by_cases e : a = b
      · subst e; simp [Nat.beq_refl]
      · rw [decide_eq_false e]
        cases q : Nat.beq a b with
        | false => rfl
        | true => exact absurd (Nat.eq_of_beq_eq_true q) e
    simp only [eqNats, h, eqNats_eq, List.cons.injEq, Bool.decide_and]
mutual
def D.eqv : D → D → Bool
  | .non, .non => true
  | .bl a, .bl b => a == b
  | .bl a, .int j => (if a then 1 else 0) == j
  | .int i, .bl b => i == (if b then 1 else 0)
  | .int i, .int j => decide (i = j)
  | .str x, .str y => eqNats x y
  | .lst xs, .lst ys => eqvL xs ys
  | .tup xs, .tup ys => eqvL xs ys
  | _, _ => false
def eqvL : List D → List D → Bool
  | [], [] => true
  | x :: xs, y :: ys => x.eqv y && eqvL xs ys
  | _, _ => false
end
theorem sl_inj {x y : List Nat} : sl x = sl y ↔ x = y := by
  constructor
  · intro h
    have := congrArg (fun z => z.cps.toList) h
    simpa [sl] using this
  · intro h; rw [h]
theorem strBeq {x y : List Nat} : ((sl x) == (sl y)) = eqNats x y := by
  rw [eqNats_eq]
  by_cases e : x = y
  · subst e; simp
  · rw [decide_eq_false e]
    exact beq_eq_false_iff_ne.mpr fun h => e (sl_inj.mp h)
mutual
theorem D.eqv_py : ∀ (n m : Nat) (x y : D), x.okN n = true → y.okN m = true → PyData.eqv x.toPy y.toPy = x.eqv y
  | n, m, x, y, hx, hy => by
    cases x with
    | lst xs =>
      cases n with
      | zero => simp [D.okN] at hx
      | succ n =>
        cases y with
        | lst ys =>
          cases m with
          | zero => simp [D.okN] at hy
          | succ m =>
            simp only [D.okN] at hx hy
            simp only [D.toPy, PyData.eqv, D.eqv]
            exact eqvL_py n m xs ys hx hy
        | tup ys => cases m <;> simp [D.toPy, PyData.eqv, D.eqv, D.okN] at *
        | _ => simp [D.toPy, PyData.eqv, D.eqv, D.okN] at *
    | tup xs =>
      cases n with
      | zero => simp [D.okN] at hx
      | succ n =>
        cases y with
        | tup ys =>
          cases m with
          | zero => simp [D.okN] at hy
          | succ m =>
            simp only [D.okN] at hx hy
            simp only [D.toPy, PyData.eqv, D.eqv]
            exact eqvL_py n m xs ys hx hy
        | lst ys => cases m <;> simp [D.toPy, PyData.eqv, D.eqv, D.okN] at *
        | _ => simp [D.toPy, PyData.eqv, D.eqv, D.okN] at *
    | int i => cases y <;> simp [D.toPy, PyData.eqv, D.eqv, D.okN, Bool.beq_eq_decide_eq] at *
    | str i => cases y <;> simp [D.toPy, PyData.eqv, D.eqv, D.okN, strBeq] at *
    | non => cases y <;> simp [D.toPy, PyData.eqv, D.eqv, D.okN] at *
    | bl b => cases y <;> simp [D.toPy, PyData.eqv, D.eqv, D.okN] at *
    | _ => simp [D.okN] at hx
theorem eqvL_py : ∀ (n m : Nat) (x y : List D), okNL n x = true → okNL m y = true → PyData.eqvAll (toPyL x) (toPyL y) = eqvL x y
  | n, m, [], [], _, _ => by simp [toPyL, PyData.eqvAll, eqvL]
  | n, m, [], _ :: _, _, _ => by simp [toPyL, PyData.eqvAll, eqvL]
  | n, m, _ :: _, [], _, _ => by simp [toPyL, PyData.eqvAll, eqvL]
  | n, m, x :: xs, y :: ys, hx, hy => by
    simp only [okNL, Bool.and_eq_true] at hx hy
    simp only [toPyL, PyData.eqvAll, eqvL]
    rw [D.eqv_py n m x y hx.1 hy.1, eqvL_py n m xs ys hx.2 hy.2]
end
section
variable {p : Pg} {C N : Addr → Prop} {H : Hp}
mutual
theorem Rep.dp : ∀ (n : Nat) (d : D) (v : V), d.okN n = true → Rep p C H N d v → Dp p.K H v d.toPy ∧ d.toPy.canLay0 = true ∧ d.toPy.depth ≤ n
  | n, d, v, hd, h => by
    cases d with
    | non => simp only [Rep] at h; subst h; exact ⟨.non, rfl, Nat.zero_le _⟩
    | bl b => simp only [Rep] at h; subst h; exact ⟨.bl b, rfl, Nat.zero_le _⟩
    | int i => simp only [Rep] at h; subst h; exact ⟨.int i, rfl, Nat.zero_le _⟩
    | str s =>
      simp only [Rep] at h
      obtain ⟨rfl, h2, _⟩ := h
      refine ⟨.str _, ?_, Nat.zero_le _⟩
      simp only [D.toPy, PyData.canLay0, PyData.strOk, sl]
      simpa using h2
    | lst xs =>
      cases n with
      | zero => simp [D.okN] at hd
      | succ n =>
        simp only [D.okN] at hd
        simp only [Rep] at h
        obtain ⟨a, vs, rfl, _, e, _, r⟩ := h
        obtain ⟨q1, q2, q3⟩ := RepL.dp n xs vs hd r
        exact ⟨.lst (.of e) q1, by simpa [D.toPy, PyData.canLay0] using q2, by simp only [D.toPy, PyData.depth]; omega⟩
    | tup xs =>
      cases n with
      | zero => simp [D.okN] at hd
      | succ n =>
        simp only [D.okN] at hd
        simp only [Rep] at h
        obtain ⟨a, vs, rfl, e, _, r⟩ := h
        obtain ⟨q1, q2, q3⟩ := RepL.dp n xs vs hd r
        exact ⟨.tup e q1, by simpa [D.toPy, PyData.canLay0] using q2, by simp only [D.toPy, PyData.depth]; omega⟩
    | _ => simp [D.okN] at hd
theorem RepL.dp : ∀ (n : Nat) (ds : List D) (vs : List V), okNL n ds = true → RepL p C H N ds vs → DpAll p.K H vs (toPyL ds) ∧ PyData.canLayAll0 (toPyL ds) = true ∧ PyData.depthAll (toPyL ds) ≤ n
  | n, [], vs, hd, h => by
    simp only [RepL] at h
    subst h
    exact ⟨.nil, rfl, Nat.zero_le _⟩
  | n, d :: ds, vs, hd, h => by
    simp only [RepL] at h
    simp only [okNL, Bool.and_eq_true] at hd
    obtain ⟨v, ws, rfl, r, q⟩ := h
    obtain ⟨a1, a2, a3⟩ := Rep.dp n d v hd.1 r
    obtain ⟨b1, b2, b3⟩ := RepL.dp n ds ws hd.2 q
    refine ⟨.cons a1 b1, by simp [toPyL, PyData.canLayAll0, a2, b2], ?_⟩
    simp only [toPyL, PyData.depthAll]
    omega
end
theorem RepP.dp {n : Nat} {d : D} {v : V} (hd : d.okN n = true) (h : RepP p C H N d v) : Dp p.K H v d.toPy ∧ d.toPy.canLay0 = true ∧ d.toPy.depth ≤ n := by
  cases d with
  | lst xs =>
    cases n with
    | zero => simp [D.okN] at hd
    | succ n =>
      simp only [D.okN] at hd
      obtain ⟨a, vs, rfl, _, e, _, r⟩ := h
      obtain ⟨q1, q2, q3⟩ := RepL.dp n xs vs hd r
      exact ⟨.lst (.of e) q1, by simpa [D.toPy, PyData.canLay0] using q2, by simp only [D.toPy, PyData.depth]; omega⟩
  | dic xs => simp [D.okN] at hd
  | _ => exact Rep.dp (C := C) (N := N) n _ v hd h
theorem RepP.shaped {d : D} {v : V} (hd : d.okN 64 = true) (h : RepP p C H N d v) : SeqAt.shaped d.toPy = true := by
  obtain ⟨_, q2, q3⟩ := h.dp hd
  simp [SeqAt.shaped, q2, q3]
end
section
variable {X : Cx} {tb : Tb} {W : WX} {pos : Pos}
def eqD (x y : D) : Option D := if x.okN 64 && y.okN 64 then some (.bl (x.eqv y)) else none
def neD (x y : D) : Option D := if x.okN 64 && y.okN 64 then some (.bl (!x.eqv y)) else none
theorem r2_eq : R2I X tb (rEqD X.K) eqD := fun g σ env H Q x y vx vy d E rx ry e q => by
  unfold eqD at e
  split at e
  · rename_i h
    simp only [Bool.and_eq_true] at h
    cases e
    refine ⟨_, _, (rx.dp h.1).1, (ry.dp h.2).1, rx.shaped h.1, ry.shaped h.2, ?_⟩
    rw [D.eqv_py 64 64 x y h.1 h.2]
    exact q _ H E.refl (by simp [Rep])
  · cases e
theorem r2_ne : R2I X tb (rNeD X.K) neD := fun g σ env H Q x y vx vy d E rx ry e q => by
  unfold neD at e
  split at e
  · rename_i h
    simp only [Bool.and_eq_true] at h
    cases e
    refine ⟨_, _, (rx.dp h.1).1, (ry.dp h.2).1, rx.shaped h.1, ry.shaped h.2, ?_⟩
    rw [D.eqv_py 64 64 x y h.1 h.2]
    exact q _ H E.refl (by simp [Rep])
  · cases e
theorem qe_eq {a b : Expr} {f1 f2 : Env → T D} (hu : X.A.units + 64 < cLine) (h1 : QP X tb W a f1) (h2 : QP X tb W b f2) : QE X tb W (.Compare a [.Eq] [b] pos) (e2 eqD f1 f2) := qe_cmp (op_eqD hu) r2_eq h1 h2
theorem qe_ne {a b : Expr} {f1 f2 : Env → T D} (hu : X.A.units + 64 < cLine) (h1 : QP X tb W a f1) (h2 : QP X tb W b f2) : QE X tb W (.Compare a [.NotEq] [b] pos) (e2 neD f1 f2) := qe_cmp (op_neD hu) r2_ne h1 h2

/-! ### arithmetic -/
def small64 (i j : Int) : Bool := (decide (-(2 ^ 64) < i) && decide (i < 2 ^ 64)) || (decide (-(2 ^ 64) < j) && decide (j < 2 ^ 64))
theorem repI {p : Pg} {C : Addr → Prop} {H : Hp} {N : Addr → Prop} {i : Int} : Rep p C H N (.int i) (.int i) := by simp [Rep]
theorem repB {p : Pg} {C : Addr → Prop} {H : Hp} {N : Addr → Prop} {i : Bool} : Rep p C H N (.bl i) (.bl i) := by simp [Rep]
def subD := iI (fun _ _ => true) fun i j => .int (i - j)
def fdivD := iI (fun i j => decide (0 < j) && decide (j < 1073741824)) fun i j => .int (i / j)
def modD := iI (fun i j => decide (0 < j)) fun i j => .int (i % j)
def powD := iI (fun i j => decide (0 ≤ j) && decide (j ≤ 1000000) && decide (i.natAbs < 2 ^ 64)) fun i j => .int (i ^ j.toNat)
def ltI := iI (fun _ _ => true) fun i j => .bl (decide (i < j))
def leI := iI (fun _ _ => true) fun i j => .bl (decide (i ≤ j))
def gtI := iI (fun _ _ => true) fun i j => .bl (decide (j < i))
def geI := iI (fun _ _ => true) fun i j => .bl (decide (j ≤ i))
section
variable {a b : Expr} {f1 f2 : Env → T D}
theorem qe_sub (h1 : QP X tb W a f1) (h2 : QP X tb W b f2) : QE X tb W (.BinOp a .Sub b pos) (e2 subD f1 f2) := qe_bin op_sub (r2_int0 fun _ _ _ _ _ _ => repI) h1 h2
theorem qe_fdiv (h1 : QP X tb W a f1) (h2 : QP X tb W b f2) : QE X tb W (.BinOp a .FloorDiv b pos) (e2 fdivD f1 f2) := qe_bin op_fdiv (r2_int (fun i j h => by simpa [CDiv] using h) fun _ _ _ _ _ _ => repI) h1 h2
theorem qe_mod (h1 : QP X tb W a f1) (h2 : QP X tb W b f2) : QE X tb W (.BinOp a .Mod b pos) (e2 modD f1 f2) := qe_bin op_mod (r2_int (fun i j h => by simpa using h) fun _ _ _ _ _ _ => repI) h1 h2
theorem qe_pow (h1 : QP X tb W a f1) (h2 : QP X tb W b f2) : QE X tb W (.BinOp a .Pow b pos) (e2 powD f1 f2) := qe_bin op_pow (r2_int (fun i j h => by simpa [CPow, and_assoc] using h) fun _ _ _ _ _ _ => repI) h1 h2
theorem qe_lt (h1 : QP X tb W a f1) (h2 : QP X tb W b f2) : QE X tb W (.Compare a [.Lt] [b] pos) (e2 ltI f1 f2) := qe_cmp op_lt (r2_int0 fun _ _ _ _ _ _ => repB) h1 h2
theorem qe_le (h1 : QP X tb W a f1) (h2 : QP X tb W b f2) : QE X tb W (.Compare a [.LtE] [b] pos) (e2 leI f1 f2) := qe_cmp op_le (r2_int0 fun _ _ _ _ _ _ => repB) h1 h2
theorem qe_gt (h1 : QP X tb W a f1) (h2 : QP X tb W b f2) : QE X tb W (.Compare a [.Gt] [b] pos) (e2 gtI f1 f2) := qe_cmp op_gt (r2_int0 fun _ _ _ _ _ _ => repB) h1 h2
theorem qe_ge (h1 : QP X tb W a f1) (h2 : QP X tb W b f2) : QE X tb W (.Compare a [.GtE] [b] pos) (e2 geI f1 f2) := qe_cmp op_ge (r2_int0 fun _ _ _ _ _ _ => repB) h1 h2
end
theorem repStr {p : Pg} {C : Addr → Prop} {H : Hp} {N : Addr → Prop} {s : List Nat} (h1 : ∀ c ∈ s, c < 0x110000) (h2 : s.length ≤ sizeLine) : Rep p C H N (.str s) (.str (sl s)) := by
  simp only [Rep]
  exact ⟨trivial, h1, h2⟩
theorem sl_len {s : List Nat} : (sl s).length = s.length := by simp [sl, Str.length]
theorem sl_app {s t : List Nat} : sl s ++ sl t = sl (s ++ t) := by
  show Str.append (sl s) (sl t) = sl (s ++ t)
  simp [sl, Str.append]
theorem size16 : (sizeLine : Nat) = 16777216 := by rw [sizeLine_eq]
/-! + -/
def addD : D → D → Option D
  | .int i, .int j => some (.int (i + j))
  | .str s, .str t => if s.length + t.length ≤ 16777216 then some (.str (s ++ t)) else none
  | .lst s, .lst t => if s.length + t.length ≤ 16777216 then some (.lst (s ++ t)) else none
  | .tup s, .tup t => if s.length + t.length ≤ 16777216 then some (.tup (s ++ t)) else none
  | _, _ => none
def rAddS : R2 := fun x y H Q => ∃ i j, x = .str i ∧ y = .str j ∧ i.length + j.length ≤ sizeLine ∧ Q (.str (i ++ j)) H
def rAddD (K : PySem.W.Frag) : R2 := fun x y H Q => rI0 (fun i j => .int (i + j)) x y H Q ∨ rAddS x y H Q ∨ rCat x y H Q ∨ rCatA K x y H Q
theorem op_addD : OpR X (binaryOp .Add) (rAddD X.K) := OpR.or op_add (OpR.or op_add_str (OpR.or op_cat op_catA))
theorem r2_add : R2I X tb (rAddD X.K) addD := fun g σ env H Q x y vx vy d E rx ry e q => by
  unfold addD at e
  split at e
  · cases e
    simp only [RepP, Rep] at rx ry
    exact .inl ⟨_, _, rx, ry, q _ H E.refl repI⟩
  · rename_i s t
    split at e
    · rename_i hl
      cases e
      simp only [RepP, Rep] at rx ry
      refine .inr (.inl ⟨_, _, rx.1, ry.1, by rw [sl_len, sl_len, size16]; exact hl, q _ H E.refl ?_⟩)
      simp only [Rep]
      refine ⟨by rw [sl_app], fun c hc => ?_, by rw [List.length_append, size16]; exact hl⟩
      rcases List.mem_append.mp hc with z | z
      · exact rx.2.1 c z
      · exact ry.2.1 c z
    · cases e
  · rename_i s t
    split at e
    · rename_i hl
      cases e
      obtain ⟨a, vs, rfl, na, ea, la, ra⟩ := rx
      obtain ⟨b, ws, rfl, nb, eb, lb, rb⟩ := ry
      have hz : (s ++ t).length ≤ sizeLine := by rw [List.length_append, size16]; exact hl
      refine .inr (.inr (.inl ⟨a, b, vs, ws, rfl, rfl, ea, eb, by rw [ra.length, rb.length, size16]; exact hl, fun p hp => ?_⟩))
      have st := E.alloc (o := .lst (vs ++ ws)) hp
      refine q _ _ st ?_
      simp only [Rep]
      exact ⟨p, _, rfl, fun z => nOb hp (E.there z), upd_same, hz, (ra.app rb).mv (E.mv st)⟩
    · cases e
  · rename_i s t
    split at e
    · rename_i hl
      cases e
      simp only [RepP, Rep] at rx ry
      obtain ⟨a, vs, rfl, ea, la, ra⟩ := rx
      obtain ⟨b, ws, rfl, eb, lb, rb⟩ := ry
      have hz : (s ++ t).length ≤ sizeLine := by rw [List.length_append, size16]; exact hl
      refine .inr (.inr (.inr ⟨a, b, vs, ws, rfl, rfl, ea, eb, by rw [ra.length, rb.length, size16]; exact hl, fun z => ?_, fun _ z => ?_, fun _ _ p hp => ?_⟩))
      · subst z
        have : s = [] := by
          cases s with
          | nil => rfl
          | cons => simp [RepL] at ra
        subst this
        refine q _ H E.refl ?_
        simp only [Rep, List.nil_append]
        exact ⟨b, ws, rfl, eb, lb, rb⟩
      · subst z
        have : t = [] := by
          cases t with
          | nil => rfl
          | cons => simp [RepL] at rb
        subst this
        refine q _ H E.refl ?_
        simp only [Rep, List.append_nil]
        exact ⟨a, vs, rfl, ea, la, ra⟩
      · have st := E.alloc (o := .tup (vs ++ ws)) hp
        refine q _ _ st ?_
        simp only [Rep]
        exact ⟨p, _, rfl, .of upd_same, hz, (ra.app rb).mv (E.mv st)⟩
    · cases e
  · cases e
theorem qe_add {a b : Expr} {f1 f2 : Env → T D} (h1 : QP X tb W a f1) (h2 : QP X tb W b f2) : QE X tb W (.BinOp a .Add b pos) (e2 addD f1 f2) := qe_bin op_addD r2_add h1 h2
/-! * -/
def repS {α : Type} : Nat → List α → List α
  | 0, _ => []
  | n + 1, s => s ++ repS n s
theorem repS_eq {α : Type} (s : List α) : ∀ n, repS n s = (List.replicate n s).flatten
  | 0 => by simp [repS]
  | n + 1 => by simp [repS, repS_eq s n, List.replicate_succ]
theorem repS_len {α : Type} (s : List α) : ∀ n, (repS n s).length = s.length * n
  | 0 => by simp [repS]
  | n + 1 => by simp [repS, repS_len s n, Nat.mul_succ, Nat.add_comm]
theorem repS_mem {α : Type} {s : List α} {x : α} : ∀ {n}, x ∈ repS n s → x ∈ s
  | 0, h => by simp [repS] at h
  | n + 1, h => by
    rcases List.mem_append.mp h with z | z
    · exact z
    · exact repS_mem z
theorem RepL.rep {p : Pg} {C : Addr → Prop} {H : Hp} {N : Addr → Prop} {ds : List D} {vs : List V} (h : RepL p C H N ds vs) : ∀ n, RepL p C H N (repS n ds) (repS n vs)
  | 0 => .nil
  | n + 1 => h.app (RepL.rep h n)
def mulD : D → D → Option D
  | .int i, .int j => if small64 i j then some (.int (i * j)) else none
  | .str s, .int j => if decide (0 ≤ j) && decide (s.length * j.toNat ≤ 16777216) && decide (j < 16777217) then some (.str (repS j.toNat s)) else none
  | .lst s, .int j => if decide (0 ≤ j) && decide (s.length * j.toNat ≤ 16777216) && decide (j < 16777217) then some (.lst (repS j.toNat s)) else none
  | .tup s, .int j => if decide (2 ≤ j) && decide (j ≤ 1000) && decide (s.length ≤ 1000) && !s.isEmpty then some (.tup (repS j.toNat s)) else none
  | _, _ => none
def rMulS : R2 := fun x y H Q => ∃ i j, x = .str i ∧ y = .int j ∧ MulOk i j ∧ Q (.str (Txt.mul i j)) H
theorem op_mulS : OpR X (binaryOp .Mult) rMulS := by
  intro pins s σ H x y v u Q I rx ry h
  obtain ⟨i, j, rfl, rfl, ok, q⟩ := h
  obtain ⟨t, rfl⟩ := rx
  obtain ⟨t', rfl⟩ := ry
  exact PySem.SB.mul ok fun t' k => ⟨.str _, H, I.tok _, ⟨_, rfl⟩, q⟩
def rMulD (K : PySem.W.Frag) : R2 := fun x y H Q => rI CMul (fun i j => .int (i * j)) x y H Q ∨ rMulS x y H Q ∨ rRep x y H Q ∨ rRepT K x y H Q
theorem op_mulD : OpR X (binaryOp .Mult) (rMulD X.K) := OpR.or op_mul (OpR.or op_mulS (OpR.or op_rep op_repT))
theorem foldl_app (c : Array Nat) : ∀ (n : Nat) (acc : Array Nat), (List.replicate n c).foldl (· ++ ·) acc = acc ++ (repS n c.toList).toArray
  | 0, acc => by simp [repS]
  | n + 1, acc => by
    rw [List.replicate_succ, List.foldl_cons, foldl_app c n (acc ++ c)]
    apply Array.ext'
    simp [repS]
theorem mul_sl {s : List Nat} {j : Int} (h0 : 0 ≤ j) : Txt.mul (sl s) j = sl (repS j.toNat s) := by
  unfold Txt.mul
  split
  · have : j.toNat = 0 := by omega
    rw [this]; rfl
  · split
    · rename_i h1 h2
      simp only [Bool.or_eq_true, beq_iff_eq] at h2
      rcases h2 with h2 | h2
      · subst h2; simp [repS]
      · have : s = [] := by rw [sl_len] at h2; exact List.length_eq_zero_iff.mp h2
        subst this
        have : ∀ n, repS n ([] : List Nat) = [] := fun n => by induction n with
          | zero => rfl
          | succ n ih => simp [repS, ih]
        rw [this]
    · rw [foldl_app]
      simp [sl]
theorem r2_mul : R2I X tb (rMulD X.K) mulD := fun g σ env H Q x y vx vy d E rx ry e q => by
  unfold mulD at e
  split at e
  · split at e
    · rename_i h
      cases e
      simp only [RepP, Rep] at rx ry
      refine .inl ⟨_, _, rx, ry, ?_, q _ H E.refl repI⟩
      simpa [small64, CMul] using h
    · cases e
  · rename_i s j
    split at e
    · rename_i h
      simp only [Bool.and_eq_true, decide_eq_true_eq] at h
      obtain ⟨⟨h0, h1⟩, h2⟩ := h
      cases e
      simp only [RepP, Rep] at rx ry
      refine .inr (.inl ⟨_, _, rx.1, ry, ?_, q _ H E.refl ?_⟩)
      · refine ⟨by simp only [Bool.or_eq_false_iff, decide_eq_false_iff_not]; omega, fun hj hn => ?_, fun hj hn => ?_⟩
        · rw [sl_len]
          intro hgt
          have hj1 : 0 < j := by omega
          have hk : ((s.length * j.toNat : Nat) : Int) ≤ 16777216 := by omega
          have e1 : ((s.length * j.toNat : Nat) : Int) = (s.length : Int) * j := by
            rw [Int.natCast_mul, Int.toNat_of_nonneg h0]
          rw [e1] at hk
          have h3 : (2 ^ 63 - 1 : Int) < (s.length : Int) * j := Int.lt_mul_of_ediv_lt hj1 hgt
          omega
        · rw [sl_len]
          unfold Builtin.Str.tooLong
          simp only [decide_eq_false_iff_not]
          rw [size16]
          omega
      · rw [mul_sl h0]
        exact repStr (fun c hc => rx.2.1 c (repS_mem hc)) (by rw [repS_len, size16]; exact h1)
    · cases e
  · rename_i s j
    split at e
    · rename_i h
      simp only [Bool.and_eq_true, decide_eq_true_eq] at h
      obtain ⟨⟨h0, h1⟩, h2⟩ := h
      cases e
      obtain ⟨a, vs, rfl, na, ea, la, ra⟩ := rx
      simp only [RepP, Rep] at ry
      have hz : (repS j.toNat s).length ≤ sizeLine := by rw [repS_len, size16]; exact h1
      refine .inr (.inr (.inl ⟨a, j, vs, rfl, ry, ea, by omega, by omega, by rw [ra.length, size16]; exact h1, fun p hp => ?_⟩))
      rw [← repS_eq]
      have st := E.alloc (o := .lst (repS j.toNat vs)) hp
      refine q _ _ st ?_
      simp only [Rep]
      refine ⟨p, _, rfl, fun z => nOb hp (E.there z), upd_same, hz, ?_⟩
      exact (ra.rep _).mv (E.mv st)
    · cases e
  · rename_i s j
    split at e
    · rename_i h
      simp only [Bool.and_eq_true, decide_eq_true_eq, Bool.not_eq_true'] at h
      obtain ⟨⟨⟨h0, h1⟩, h2⟩, h3⟩ := h
      cases e
      simp only [RepP, Rep] at rx ry
      obtain ⟨a, vs, rfl, ea, la, ra⟩ := rx
      have hz : (repS j.toNat s).length ≤ sizeLine := by
        rw [repS_len, size16]
        have : s.length * j.toNat ≤ 1000 * 1000 := Nat.mul_le_mul h2 (by omega)
        omega
      have hne : vs ≠ [] := fun z => by
        subst z
        have := ra.length
        cases s with
        | nil => simp at h3
        | cons => simp at this
      refine .inr (.inr (.inr ⟨a, j, vs, rfl, ry, ea, hne, h0, h1, by rw [ra.length]; exact h2, fun p hp => ?_⟩))
      rw [← repS_eq]
      have st := E.alloc (o := .tup (repS j.toNat vs)) hp
      refine q _ _ st ?_
      simp only [Rep]
      refine ⟨p, _, rfl, .of upd_same, hz, ?_⟩
      exact (ra.rep _).mv (E.mv st)
    · cases e
  · cases e
theorem qe_mul {a b : Expr} {f1 f2 : Env → T D} (h1 : QP X tb W a f1) (h2 : QP X tb W b f2) : QE X tb W (.BinOp a .Mult b pos) (e2 mulD f1 f2) := qe_bin op_mulD r2_mul h1 h2
/-! is None -/
def isND : D → D → Option D
  | .cup, .non => none
  | .non, .non => some (.bl true)
  | _, .non => some (.bl false)
  | _, _ => none
def isNND (x y : D) : Option D := match isND x y with
  | some (.bl b) => some (.bl (!b))
  | _ => none
theorem RepP.ne_non {p : Pg} {C : Addr → Prop} {H : Hp} {N : Addr → Prop} {d : D} {v : V} (h : RepP p C H N d v) (hd : d ≠ .non) : v ≠ .non := by
  cases d with
  | non => exact absurd rfl hd
  | lst xs => obtain ⟨a, vs, rfl, _⟩ := h; simp
  | dic xs => obtain ⟨a, vs, rfl, _⟩ := h; simp
  | tup xs => simp only [RepP, Rep] at h; obtain ⟨a, vs, rfl, _⟩ := h; simp
  | cup => simp only [RepP, Rep] at h; obtain ⟨a, rfl, _⟩ := h; simp
  | fn x => simp only [RepP, Rep] at h; obtain ⟨a, rfl, _⟩ := h; simp
  | str x => simp only [RepP, Rep] at h; obtain ⟨rfl, _⟩ := h; simp
  | _ => simp only [RepP, Rep] at h; subst h; simp
theorem r2_isN : R2I X tb (fun x y H Q => y = .non ∧ Q (.bl (decide (x = .non))) H) isND := fun g σ env H Q x y vx vy d E rx ry e q => by
  cases y with
  | non =>
    simp only [RepP, Rep] at ry
    refine ⟨ry, ?_⟩
    by_cases hx : x = .non
    · subst hx
      simp only [RepP, Rep] at rx
      subst rx
      cases e
      exact q _ H E.refl (by simp [Rep])
    · have e' : d = .bl false := by
        cases x <;> simp [isND] at e hx ⊢ <;> exact e.symm
      subst e'
      rw [decide_eq_false (rx.ne_non hx)]
      exact q _ H E.refl repB
  | _ => cases x <;> cases e
theorem r2_isNN : R2I X tb (fun x y H Q => y = .non ∧ Q (.bl (!decide (x = .non))) H) isNND := fun g σ env H Q x y vx vy d E rx ry e q => by
  unfold isNND at e
  cases h : isND x y with
  | none => rw [h] at e; cases e
  | some z =>
    rw [h] at e
    cases z with
    | bl b =>
      cases e
      obtain ⟨h1, h2⟩ := r2_isN (X := X) (tb := tb) g σ env H (fun v _ => v = .bl b) x y vx vy _ E rx ry h fun v H' _ r => by simpa only [Rep] using r
      refine ⟨h1, ?_⟩
      injection h2 with h2
      rw [h2]
      exact q _ H E.refl repB
    | _ => cases e
theorem qe_isN {a b : Expr} {f1 f2 : Env → T D} (h1 : QP X tb W a f1) (h2 : QP X tb W b f2) : QE X tb W (.Compare a [.Is] [b] pos) (e2 isND f1 f2) := qe_cmp op_isN r2_isN h1 h2
theorem qe_isNN {a b : Expr} {f1 f2 : Env → T D} (h1 : QP X tb W a f1) (h2 : QP X tb W b f2) : QE X tb W (.Compare a [.IsNot] [b] pos) (e2 isNND f1 f2) := qe_cmp op_notN r2_isNN h1 h2
end
end MM

namespace MM
open PySem PySem.Spec L2

section
variable {p : Pg} {C N : Addr → Prop} {H : Hp}
/-! ### flat things -/
def D.flat : D → Bool
  | .non => true | .bl _ => true | .int _ => true | .str _ => true | _ => false
def D.v : D → V
  | .bl b => .bl b | .int i => .int i | .str s => .str (sl s) | _ => .non
theorem Rep.flat {d : D} {v : V} (hf : d.flat = true) (h : Rep p C H N d v) : v = d.v := by
  cases d with
  | str s => simp only [Rep] at h; exact h.1
  | non => simp only [Rep] at h; exact h
  | bl b => simp only [Rep] at h; exact h
  | int b => simp only [Rep] at h; exact h
  | _ => cases hf
theorem RepP.flat {d : D} {v : V} (hf : d.flat = true) (h : RepP p C H N d v) : v = d.v := by
  cases d with
  | lst _ => cases hf
  | dic _ => cases hf
  | _ => exact Rep.flat (p := p) (C := C) (N := N) (H := H) hf h
theorem flatV_v {d : D} (hf : d.flat = true) : flatV d.v = true := by
  cases d <;> first | rfl | exact (Bool.false_ne_true hf).elim
theorem eqV_v {d e : D} (hd : d.flat = true) (he : e.flat = true) : eqV d.v e.v = d.eqv e := by
  cases d <;> cases e <;> first
    | exact (Bool.false_ne_true hd).elim
    | exact (Bool.false_ne_true he).elim
    | (simp only [D.v, eqV, D.eqv]; done)
    | (simp only [D.v, eqV, D.eqv, Bool.beq_eq_decide_eq]; done)
    | (simp only [D.v, eqV, D.eqv]; exact strBeq)
theorem RepL.flat : ∀ {ds : List D} {vs : List V}, ds.all D.flat = true → RepL p C H N ds vs → vs = ds.map D.v
  | [], _, _, h => by simp only [RepL] at h; exact h
  | d :: ds, _, hf, h => by
    simp only [RepL] at h
    obtain ⟨v, ws, rfl, r, q⟩ := h
    simp only [List.all_cons, Bool.and_eq_true] at hf
    rw [r.flat hf.1, RepL.flat hf.2 q]
    rfl
theorem all_flatV : ∀ {ds : List D}, ds.all D.flat = true → (ds.map D.v).all flatV = true
  | [], _ => rfl
  | d :: ds, h => by
    simp only [List.all_cons, Bool.and_eq_true] at h
    simp only [List.map_cons, List.all_cons, Bool.and_eq_true]
    exact ⟨flatV_v h.1, all_flatV h.2⟩
/-- whether one of several is equal to x -/
def anyEq (x : D) : List D → Bool
  | [] => false
  | y :: ys => y.eqv x || anyEq x ys
theorem inV_v {x : D} (hx : x.flat = true) : ∀ {ds : List D}, ds.all D.flat = true → inV x.v (ds.map D.v) = anyEq x ds
  | [], _ => rfl
  | d :: ds, h => by
    simp only [List.all_cons, Bool.and_eq_true] at h
    have ih := inV_v hx h.2
    unfold inV at ih ⊢
    simp only [List.map_cons, List.any_cons, anyEq, eqV_v h.1 hx, ih]
theorem any_py {x : D} (hx : x.okN 64 = true) : ∀ {ds : List D}, okNL 63 ds = true → ((toPyL ds).any fun z => PyData.eqv z x.toPy) = anyEq x ds
  | [], _ => rfl
  | d :: ds, h => by
    simp only [okNL, Bool.and_eq_true] at h
    simp only [toPyL, List.any_cons, anyEq, any_py hx h.2, D.eqv_py 63 64 d x h.1 hx]
end

def memN (c : Nat) : List Nat → Bool
  | [] => false
  | x :: xs => Nat.beq c x || memN c xs
theorem memN_eq {c : Nat} : ∀ {l : List Nat}, memN c l = decide (c ∈ l)
  | [] => by simp [memN]
  | x :: xs => by
    have h : Nat.beq c x = decide (c = x) := by
      by_cases e : c = x
      · subst e; simp [Nat.beq_refl]
      · rw [decide_eq_false e]
        cases q : Nat.beq c x with
        | false => rfl
        | true => exact absurd (Nat.eq_of_beq_eq_true q) e
    simp only [memN, h, memN_eq, List.mem_cons, Bool.decide_or]
/-- whether t begins with s; whether s stands somewhere in t -/
def preL : List Nat → List Nat → Bool
  | [], _ => true
  | _ :: _, [] => false
  | a :: as, b :: bs => Nat.beq a b && preL as bs
def subL (s : List Nat) : List Nat → Bool
  | [] => preL s []
  | b :: bs => preL s (b :: bs) || subL s bs
theorem preL_eq : ∀ {s t : List Nat}, preL s t = decide (t.take s.length = s)
  | [], t => by simp [preL]
  | _ :: _, [] => by simp [preL]
  | a :: as, b :: bs => by
    have h : Nat.beq a b = decide (b = a) := by
      by_cases e : b = a
      · subst e; simp [Nat.beq_refl]
      · rw [decide_eq_false e]
        cases q : Nat.beq a b with
        | false => rfl
        | true => exact absurd (Nat.eq_of_beq_eq_true q).symm e
    simp only [preL, h, preL_eq, List.length_cons, List.take_succ_cons, List.cons.injEq, Bool.decide_and]
theorem subL_iff {s : List Nat} : ∀ {t : List Nat}, subL s t = true ↔ ∃ i, i ≤ t.length ∧ (t.drop i).take s.length = s
  | [] => by
    simp only [subL, preL_eq, decide_eq_true_eq]
    constructor
    · intro h; exact ⟨0, Nat.le_refl _, by simpa using h⟩
    · rintro ⟨i, _, h⟩; simpa using h
  | b :: bs => by
    simp only [subL, preL_eq, Bool.or_eq_true, decide_eq_true_eq, subL_iff (t := bs)]
    constructor
    · rintro (h | ⟨i, h1, h2⟩)
      · exact ⟨0, Nat.zero_le _, by simpa using h⟩
      · exact ⟨i + 1, by simpa using h1, by simpa using h2⟩
    · rintro ⟨i, h1, h2⟩
      cases i with
      | zero => exact .inl (by simpa using h2)
      | succ i => exact .inr ⟨i, by simpa using h1, by simpa using h2⟩
theorem found_sl {s t : List Nat} : (!(Builtin.Str.occurrences (sl t) (sl s) 0 (sl t).length 1).isEmpty) = subL s t := by
  have h : (!(Builtin.Str.occurrences (sl t) (sl s) 0 (sl t).length 1).isEmpty) = true ↔ subL s t = true := by
    rw [PySem.StrLaws.found_iff, subL_iff]
    constructor
    · rintro ⟨i, h1, h2⟩
      rw [sl_len, sl_len] at h1
      rw [PySem.StrLaws.subAt_eq] at h2
      refine ⟨i, by omega, ?_⟩
      have := eq_of_beq h2
      rw [sl_len] at this
      simpa [sl] using this
    · rintro ⟨i, h1, h2⟩
      have e := congrArg List.length h2
      rw [List.length_take, List.length_drop] at e
      refine ⟨i, by rw [sl_len, sl_len]; omega, ?_⟩
      rw [PySem.StrLaws.subAt_eq, sl_len]
      simpa [sl] using h2
  cases h1 : (!(Builtin.Str.occurrences (sl t) (sl s) 0 (sl t).length 1).isEmpty) <;> cases h2 : subL s t <;> simp_all

section
variable {X : Cx} {tb : Tb} {W : WX} {pos : Pos}
/-! ### in -/
def inD0 (x y : D) : Option Bool := match y with
  | .str t => match x with
    | .str s => some (match s with
      | [c] => memN c t
      | s => subL s t)
    | _ => none
  | .lst ys => if x.flat && ys.all D.flat then some (anyEq x ys) else if x.okN 64 && okNL 63 ys then some (anyEq x ys) else none
  | .tup ys => if x.flat && ys.all D.flat then some (anyEq x ys) else none
  | _ => none
def inD (x y : D) : Option D := (inD0 x y).map .bl
def notInD (x y : D) : Option D := (inD0 x y).map fun b => .bl (!b)
def rInS (neg : Bool) : R2 := fun x y H Q => ∃ i j, x = .str i ∧ y = .str j ∧ Q (.bl (if neg then !(!(Builtin.Str.occurrences j i 0 j.length 1).isEmpty) else !(Builtin.Str.occurrences j i 0 j.length 1).isEmpty)) H
def rInDD (K : PySem.W.Frag) (neg : Bool) : R2 := fun x y H Q => ∃ d ds, Dp K H x d ∧ Dp K H y (.list ds) ∧ SeqAt.shaped d = true ∧ SeqAt.shaped (.list ds) = true ∧ Q (.bl (if neg then !(ds.any fun z => PyData.eqv z d) else ds.any fun z => PyData.eqv z d)) H
def rInAll (K : PySem.W.Frag) (neg : Bool) : R2 := fun x y H Q => rInS neg x y H Q ∨ rIn K neg x y H Q ∨ rInDD K neg x y H Q
theorem op_inAll (hu : X.A.units + 65 < cLine) : OpR X (compareOp .In) (rInAll X.K false) :=
  OpR.or op_in_str (OpR.or op_in_seq (op_inD hu))
theorem op_notInAll (hu : X.A.units + 65 < cLine) : OpR X (compareOp .NotIn) (rInAll X.K true) :=
  OpR.or op_notIn_str (OpR.or op_notIn_seq (op_notInD hu))
theorem mem_sub {s t : List Nat} : (match s with | [c] => memN c t | s => subL s t) = subL s t := by
  split
  · rename_i c
    rw [memN_eq]
    have h1 : subL [c] t = true ↔ c ∈ t := by
      rw [subL_iff]
      constructor
      · rintro ⟨i, _, h⟩
        have : c ∈ (t.drop i).take [c].length := by rw [h]; simp
        exact List.mem_of_mem_drop (List.mem_of_mem_take this)
      · intro h
        obtain ⟨i, hi, e⟩ := List.getElem_of_mem h
        refine ⟨i, by omega, ?_⟩
        rw [List.drop_eq_getElem_cons hi, e]
        rfl
    cases h2 : subL [c] t with
    | true => exact decide_eq_true (h1.mp h2)
    | false => exact decide_eq_false fun h => by rw [h1.mpr h] at h2; cases h2
  · rfl
theorem r2_in0 (neg : Bool) {g : Gh} {σ : St} {env : Env} {H : Hp} {Q : VK} {x y : D} {vx vy : V} {b : Bool} (E : ER (pgOf X tb) g σ env H) (rx : RepP (pgOf X tb) g.C H (Nn g σ env) x vx) (ry : RepP (pgOf X tb) g.C H (Nn g σ env) y vy) (e : inD0 x y = some b)
    (q : Q (.bl (if neg then !b else b)) H) : rInAll X.K neg vx vy H Q := by
  unfold inD0 at e
  split at e
  · rename_i t
    split at e
    · rename_i s
      injection e with e
      rw [mem_sub] at e
      subst e
      simp only [RepP, Rep] at rx ry
      refine .inl ⟨_, _, rx.1, ry.1, ?_⟩
      rw [found_sl]
      exact q
    · cases e
  · rename_i ys
    split at e
    · rename_i h
      simp only [Bool.and_eq_true] at h
      cases e
      obtain ⟨a, vs, rfl, _, ea, la, ra⟩ := ry
      have ev := ra.flat h.2
      subst ev
      refine .inr (.inl ⟨a, _, rfl, .inl (.of ea), by rw [rx.flat h.1]; exact flatV_v h.1, all_flatV h.2, ?_⟩)
      rw [rx.flat h.1, inV_v h.1 h.2]
      exact q
    · split at e
      · rename_i h
        simp only [Bool.and_eq_true] at h
        cases e
        have h2 : D.okN 64 (.lst ys) = true := by simpa [D.okN] using h.2
        refine .inr (.inr ⟨_, _, (rx.dp h.1).1, (ry.dp h2).1, rx.shaped h.1, ry.shaped h2, ?_⟩)
        rw [any_py h.1 h.2]
        exact q
      · cases e
  · rename_i ys
    split at e
    · rename_i h
      simp only [Bool.and_eq_true] at h
      cases e
      simp only [RepP, Rep] at ry
      obtain ⟨a, vs, rfl, ea, la, ra⟩ := ry
      have ev := ra.flat h.2
      subst ev
      refine .inr (.inl ⟨a, _, rfl, .inr ea, by rw [rx.flat h.1]; exact flatV_v h.1, all_flatV h.2, ?_⟩)
      rw [rx.flat h.1, inV_v h.1 h.2]
      exact q
    · cases e
  · cases e
theorem r2_in : R2I X tb (rInAll X.K false) inD := fun g σ env H Q x y vx vy d E rx ry e q => by
  unfold inD at e
  cases h : inD0 x y with
  | none => rw [h] at e; cases e
  | some b => rw [h] at e; cases e; exact r2_in0 false E rx ry h (q _ H E.refl repB)
theorem r2_notIn : R2I X tb (rInAll X.K true) notInD := fun g σ env H Q x y vx vy d E rx ry e q => by
  unfold notInD at e
  cases h : inD0 x y with
  | none => rw [h] at e; cases e
  | some b => rw [h] at e; cases e; exact r2_in0 true E rx ry h (q _ H E.refl repB)
theorem qe_in {a b : Expr} {f1 f2 : Env → T D} (hu : X.A.units + 65 < cLine) (h1 : QP X tb W a f1) (h2 : QP X tb W b f2) (hm : behindInMarks .In b = false := by rfl) : QE X tb W (.Compare a [.In] [b] pos) (e2 inD f1 f2) := qe_cmp (op_inAll hu) r2_in h1 h2 hm
theorem qe_notIn {a b : Expr} {f1 f2 : Env → T D} (hu : X.A.units + 65 < cLine) (h1 : QP X tb W a f1) (h2 : QP X tb W b f2) (hm : behindInMarks .NotIn b = false := by rfl) : QE X tb W (.Compare a [.NotIn] [b] pos) (e2 notInD f1 f2) := qe_cmp (op_notInAll hu) r2_notIn h1 h2 hm

/-! ### a chain of two -/
def isBl : D → Option Bool
  | .bl b => some b
  | _ => none
def e3 (F G : D → D → Option D) (f1 f2 f3 : Env → T D) : Env → T D := fun env => (f1 env).bind fun x => (f2 env).bind fun y => (ofO ((F x y).bind isBl)).bind fun b => if b then (f3 env).bind fun z => ofO (G y z) else .ret (.bl false)
theorem imp_chain {F G : Int → Int → Bool} {f1 f2 f3 : Env → T D} {t1 t2 t3 : TE} (i1 : ImpP (pgOf X tb) W t1 f1) (i2 : ImpP (pgOf X tb) W t2 f2) (i3 : ImpP (pgOf X tb) W t3 f3) :
    ImpE (pgOf X tb) W (tChain (rI0 fun i j => .bl (F i j)) (rI0 fun i j => .bl (G i j)) t1 t2 t3) (e3 (iI (fun _ _ => true) fun i j => .bl (F i j)) (iI (fun _ _ => true) fun i j => .bl (G i j)) f1 f2 f3) := fun g σ env H Q E hw => by
  unfold e3 at hw
  rw [T.wp_bind] at hw
  refine i1 g σ env H _ E (T.wp_mono (fun x q vx H1 s1 r1 => ?_) (fun _ z => z) hw)
  rw [T.wp_bind] at q
  have E1 := E.step s1
  refine i2 g σ env H1 _ E1 (T.wp_mono (fun y q vy H2 s2 r2 => ?_) (wpStep s1) q)
  have E2 := E1.step s2
  rw [T.wp_bind] at q
  cases x with
  | int i =>
    cases y with
    | int j =>
      simp only [RepP, Rep] at r1 r2
      simp only [iI, if_pos, Option.bind_some, isBl, ofO, T.wp] at q
      refine ⟨i, j, r1, r2, F i j, rfl, ?_⟩
      cases hF : F i j with
      | true =>
        rw [hF, if_pos rfl] at q
        rw [if_pos rfl]
        rw [T.wp_bind] at q
        refine i3 g σ env H2 _ E2 (T.wp_mono (fun z q vz H3 s3 r3 => ?_) (wpStep (s1.trans s2)) q)
        cases z with
        | int k =>
          simp only [RepP, Rep] at r3
          simp only [iI, if_pos, ofO, T.wp] at q
          exact ⟨j, k, r2, r3, q _ H3 (s1.trans (s2.trans s3)) repB⟩
        | _ => exact q.elim
      | false =>
        rw [hF, if_neg (by simp)] at q
        rw [if_neg (by simp)]
        exact q _ H2 (s1.trans s2) repB
    | _ => exact q.elim
  | _ => exact q.elim
theorem qe_chain {op op' : CmpOp} {F G : Int → Int → Bool} {a b c : Expr} {f1 f2 f3 : Env → T D} (ho : OpR X (compareOp op) (rI0 fun i j => .bl (F i j))) (ho' : OpR X (compareOp op') (rI0 fun i j => .bl (G i j)))
    (h1 : QP X tb W a f1) (h2 : QP X tb W b f2) (h3 : QP X tb W c f3) (hm : lastMarks [op, op'] [b, c] = false := by rfl) :
    QE X tb W (.Compare a [op, op'] [b, c] pos) (e3 (iI (fun _ _ => true) fun i j => .bl (F i j)) (iI (fun _ _ => true) fun i j => .bl (G i j)) f1 f2 f3) := by
  obtain ⟨t1, p1, i1⟩ := h1.ex
  obtain ⟨t2, p2, i2⟩ := h2.ex
  obtain ⟨t3, p3, i3⟩ := h3.ex
  exact ⟨_, pe_chain ho ho' p1 p2 p3 hm, imp_chain i1 i2 i3⟩
end
end MM

namespace MM
open PySem PySem.Spec L2

section
variable {X : Cx} {tb : Tb} {W : WX} {pos : Pos}
/-! ### tests -/
def tB (f : Env → T D) : Env → T Bool := fun env => (f env).bind fun x => ofO (isBl x)
theorem isBl_eq {x : D} {b : Bool} (h : isBl x = some b) : x = .bl b := by
  cases x <;> first | (cases h; rfl) | cases h
theorem qt_val {e : Expr} {f : Env → T D} (h : QP X tb W e f) (he : ∀ whole, isTrue e X.env whole = (do let v ← whole; standAt e.pos; holding [v] (truthy v)) := by intro _; rfl) : QT X tb W e (tB f) := by
  obtain ⟨t, h1, h2⟩ := h.ex
  refine ⟨_, pt_val h1 he, fun g σ env H Q E hw => ?_⟩
  unfold tB at hw
  rw [T.wp_bind] at hw
  refine h2 g σ env H _ E (T.wp_mono (fun x q vx H1 s1 r1 => ?_) (fun _ z => z) hw)
  cases hx : isBl x with
  | none => rw [hx] at q; exact q.elim
  | some b =>
    rw [hx] at q
    have := isBl_eq hx
    subst this
    simp only [RepP, Rep] at r1
    exact ⟨b, r1, q H1 s1⟩
/-- truth of anything -/
def truD : D → Option Bool
  | .bl b => some b
  | .non => some false
  | .int i => some (i != 0)
  | .str s => some (!s.isEmpty)
  | .lst s => some (!s.isEmpty)
  | .tup s => some (!s.isEmpty)
  | _ => none
def tNot (f : Env → T Bool) : Env → T Bool := fun env => (f env).bind fun b => .ret (!b)
def tAnd (f h : Env → T Bool) : Env → T Bool := fun env => (f env).bind fun b => if b then h env else .ret false
def tOr (f h : Env → T Bool) : Env → T Bool := fun env => (f env).bind fun b => if b then .ret true else h env
theorem qt_not {a : Expr} {f : Env → T Bool} (h : QT X tb W a f) : QT X tb W (.UnaryOp .Not a pos) (tNot f) := by
  obtain ⟨t, h1, h2⟩ := h.ex
  refine ⟨_, pt_not h1, fun g σ env H Q E hw => ?_⟩
  unfold tNot at hw
  rw [T.wp_bind] at hw
  exact h2 g σ env H _ E hw
theorem qw_and1 {a : Expr} {f : Env → T Bool} (h : QT X tb W a f) : QW X tb W (.BoolOp .And [a] pos) f := by
  obtain ⟨t, h1, h2⟩ := h.ex
  exact ⟨t, pw_and1 h1, h2⟩
theorem qw_or1 {a : Expr} {f : Env → T Bool} (h : QT X tb W a f) : QW X tb W (.BoolOp .Or [a] pos) f := by
  obtain ⟨t, h1, h2⟩ := h.ex
  exact ⟨t, pw_or1 h1, h2⟩
theorem qw_and {a b : Expr} {rest : List Expr} {f h : Env → T Bool} (ha : QT X tb W a f) (hb : QW X tb W (.BoolOp .And (b :: rest) pos) h) : QW X tb W (.BoolOp .And (a :: b :: rest) pos) (tAnd f h) := by
  obtain ⟨t, h1, h2⟩ := ha.ex
  obtain ⟨t', h1', h2'⟩ := hb.ex
  refine ⟨_, pw_and h1 h1', fun g σ env H Q E hw => ?_⟩
  unfold tAnd at hw
  rw [T.wp_bind] at hw
  refine h2 g σ env H _ E (T.wp_mono (fun b q H1 s1 => ?_) (fun _ z => z) hw)
  cases b with
  | true =>
    rw [if_pos rfl] at q ⊢
    exact h2' g σ env H1 _ (E.step s1) (T.wp_mono (fun b q H2 s2 => q H2 (s1.trans s2)) (wpStep s1) q)
  | false =>
    rw [if_neg (by simp)] at q ⊢
    exact q H1 s1
theorem qw_or {a b : Expr} {rest : List Expr} {f h : Env → T Bool} (ha : QT X tb W a f) (hb : QW X tb W (.BoolOp .Or (b :: rest) pos) h) : QW X tb W (.BoolOp .Or (a :: b :: rest) pos) (tOr f h) := by
  obtain ⟨t, h1, h2⟩ := ha.ex
  obtain ⟨t', h1', h2'⟩ := hb.ex
  refine ⟨_, pw_or h1 h1', fun g σ env H Q E hw => ?_⟩
  unfold tOr at hw
  rw [T.wp_bind] at hw
  refine h2 g σ env H _ E (T.wp_mono (fun b q H1 s1 => ?_) (fun _ z => z) hw)
  cases b with
  | true =>
    rw [if_pos rfl] at q ⊢
    exact q H1 s1
  | false =>
    rw [if_neg (by simp)] at q ⊢
    exact h2' g σ env H1 _ (E.step s1) (T.wp_mono (fun b q H2 s2 => q H2 (s1.trans s2)) (wpStep s1) q)
/-! .. as values -/
def eNot (f : Env → T D) : Env → T D := fun env => (f env).bind fun x => (ofO (isBl x)).bind fun b => .ret (.bl (!b))
def eAnd (f h : Env → T D) : Env → T D := fun env => (f env).bind fun x => (ofO (isBl x)).bind fun b => if b then h env else .ret (.bl false)
def eOr (f h : Env → T D) : Env → T D := fun env => (f env).bind fun x => (ofO (isBl x)).bind fun b => if b then .ret (.bl true) else h env
theorem qe_one {op} {a : Expr} {f : Env → T D} (h : QE X tb W a f) : QE X tb W (.BoolOp op [a] pos) f := by
  obtain ⟨t, h1, h2⟩ := h.ex
  exact ⟨t, pe_one h1, h2⟩
theorem qe_not {a : Expr} {f : Env → T D} (h : QP X tb W a f) : QE X tb W (.UnaryOp .Not a pos) (eNot f) := by
  obtain ⟨t, h1, h2⟩ := h.ex
  refine ⟨_, pe_not h1, fun g σ env H Q E hw => ?_⟩
  unfold eNot at hw
  rw [T.wp_bind] at hw
  refine h2 g σ env H _ E (T.wp_mono (fun x q vx H1 s1 r1 => ?_) (fun _ z => z) hw)
  cases hx : isBl x with
  | none => rw [hx] at q; exact q.elim
  | some b =>
    rw [hx] at q
    have := isBl_eq hx
    subst this
    simp only [RepP, Rep] at r1
    exact ⟨b, r1, q _ H1 s1 repB⟩
theorem qe_and {a b : Expr} {rest : List Expr} {f h : Env → T D} (ha : QP X tb W a f) (hb : QE X tb W (.BoolOp .And (b :: rest) pos) h) : QE X tb W (.BoolOp .And (a :: b :: rest) pos) (eAnd f h) := by
  obtain ⟨t, h1, h2⟩ := ha.ex
  obtain ⟨t', h1', h2'⟩ := hb.ex
  refine ⟨_, pe_and h1 h1', fun g σ env H Q E hw => ?_⟩
  unfold eAnd at hw
  rw [T.wp_bind] at hw
  refine h2 g σ env H _ E (T.wp_mono (fun x q vx H1 s1 r1 => ?_) (fun _ z => z) hw)
  cases hx : isBl x with
  | none => rw [hx] at q; exact q.elim
  | some b =>
    rw [hx] at q
    have := isBl_eq hx
    subst this
    simp only [RepP, Rep] at r1
    refine ⟨b, r1, ?_⟩
    simp only [ofO, T.bind] at q
    cases b with
    | true =>
      rw [if_pos rfl] at q ⊢
      exact h2' g σ env H1 _ (E.step s1) (T.wp_mono (fun d q v H2 s2 r => q v H2 (s1.trans s2) r) (wpStep s1) q)
    | false =>
      rw [if_neg (by simp)] at q ⊢
      exact q _ H1 s1 repB
theorem qe_or {a b : Expr} {rest : List Expr} {f h : Env → T D} (ha : QP X tb W a f) (hb : QE X tb W (.BoolOp .Or (b :: rest) pos) h) : QE X tb W (.BoolOp .Or (a :: b :: rest) pos) (eOr f h) := by
  obtain ⟨t, h1, h2⟩ := ha.ex
  obtain ⟨t', h1', h2'⟩ := hb.ex
  refine ⟨_, pe_or h1 h1', fun g σ env H Q E hw => ?_⟩
  unfold eOr at hw
  rw [T.wp_bind] at hw
  refine h2 g σ env H _ E (T.wp_mono (fun x q vx H1 s1 r1 => ?_) (fun _ z => z) hw)
  cases hx : isBl x with
  | none => rw [hx] at q; exact q.elim
  | some b =>
    rw [hx] at q
    have := isBl_eq hx
    subst this
    simp only [RepP, Rep] at r1
    refine ⟨b, r1, ?_⟩
    simp only [ofO, T.bind] at q
    cases b with
    | true =>
      rw [if_pos rfl] at q ⊢
      exact q _ H1 s1 repB
    | false =>
      rw [if_neg (by simp)] at q ⊢
      exact h2' g σ env H1 _ (E.step s1) (T.wp_mono (fun d q v H2 s2 r => q v H2 (s1.trans s2) r) (wpStep s1) q)
def eIf (c : Env → T Bool) (f h : Env → T D) : Env → T D := fun env => (c env).bind fun b => if b then f env else h env
theorem qe_if {c a b : Expr} {fc : Env → T Bool} {f h : Env → T D} (hc : QT X tb W c fc) (ha : QE X tb W a f) (hb : QE X tb W b h) : QE X tb W (.IfExp c a b pos) (eIf fc f h) := by
  obtain ⟨t, h1, h2⟩ := hc.ex
  obtain ⟨ta, a1, a2⟩ := ha.ex
  obtain ⟨tb', b1, b2⟩ := hb.ex
  refine ⟨_, pe_ifExp h1 a1 b1, fun g σ env H Q E hw => ?_⟩
  unfold eIf at hw
  rw [T.wp_bind] at hw
  refine h2 g σ env H _ E (T.wp_mono (fun b q H1 s1 => ?_) (fun _ z => z) hw)
  cases b with
  | true =>
    rw [if_pos rfl] at q ⊢
    exact a2 g σ env H1 _ (E.step s1) (T.wp_mono (fun d q v H2 s2 r => q v H2 (s1.trans s2) r) (wpStep s1) q)
  | false =>
    rw [if_neg (by simp)] at q ⊢
    exact b2 g σ env H1 _ (E.step s1) (T.wp_mono (fun d q v H2 s2 r => q v H2 (s1.trans s2) r) (wpStep s1) q)

/-! ### arguments -/
def aNil : Env → T (List D) := fun _ => .ret []
def aCons (f : Env → T D) (h : Env → T (List D)) : Env → T (List D) := fun env => (f env).bind fun x => (h env).bind fun xs => .ret (x :: xs)
theorem qa_nil : QA X tb W [] aNil := ⟨tNil, pa_nil, fun g σ env H Q E hw => hw [] H E.refl .nil⟩
theorem qa_cons {e : Expr} {es : List Expr} {f : Env → T D} {h : Env → T (List D)} (h1 : QE X tb W e f) (h2 : QA X tb W es h) (hs : starEach (e :: es) X.env = (false, eval e X.env) :: starEach es X.env := by rfl) : QA X tb W (e :: es) (aCons f h) := by
  obtain ⟨t, p1, i1⟩ := h1.ex
  obtain ⟨t', p2, i2⟩ := h2.ex
  refine ⟨_, pa_cons p1 p2 hs, fun g σ env H Q E hw => ?_⟩
  unfold aCons at hw
  rw [T.wp_bind] at hw
  refine i1 g σ env H _ E (T.wp_mono (fun x q vx H1 s1 r1 => ?_) (fun _ z => z) hw)
  rw [T.wp_bind] at q
  have E1 := E.step s1
  refine i2 g σ env H1 _ E1 (T.wp_mono (fun xs q vs H2 s2 r2 => ?_) (wpStep s1) q)
  exact q _ H2 (s1.trans s2) (.cons (r1.mv (E1.mv s2)) r2)
/-- arguments that are only read -/
structure QAP (X : Cx) (tb : Tb) (W : WX) (es : List Expr) (f : Env → T (List D)) : Prop where
  ex : ∃ t, PA X es t ∧ ∀ g σ env H (Q : List V → Hp → Prop), ER (pgOf X tb) g σ env H →
    (f env).wp (fun ds => ∀ vs H', Step (pgOf X tb) g.C H H' → RepPs (pgOf X tb) g.C H' (Nn g σ env) ds vs → Q vs H') (XP (pgOf X tb) g σ H W) → t σ H Q
theorem qap_nil : QAP X tb W [] aNil := ⟨tNil, pa_nil, fun g σ env H Q E hw => hw [] H E.refl rfl⟩
theorem qap_cons {e : Expr} {es : List Expr} {f : Env → T D} {h : Env → T (List D)} (h1 : QP X tb W e f) (h2 : QAP X tb W es h) (hs : starEach (e :: es) X.env = (false, eval e X.env) :: starEach es X.env := by rfl) : QAP X tb W (e :: es) (aCons f h) := by
  obtain ⟨t, p1, i1⟩ := h1.ex
  obtain ⟨t', p2, i2⟩ := h2.ex
  refine ⟨_, pa_cons p1 p2 hs, fun g σ env H Q E hw => ?_⟩
  unfold aCons at hw
  rw [T.wp_bind] at hw
  refine i1 g σ env H _ E (T.wp_mono (fun x q vx H1 s1 r1 => ?_) (fun _ z => z) hw)
  rw [T.wp_bind] at q
  have E1 := E.step s1
  refine i2 g σ env H1 _ E1 (T.wp_mono (fun xs q vs H2 s2 r2 => ?_) (wpStep s1) q)
  exact q _ H2 (s1.trans s2) ⟨vx, vs, rfl, r1.step E1 s2, r2⟩
/-- a built-in's rule, for data -/
def CRI (X : Cx) (tb : Tb) (r : List V → Hp → VK → Prop) (F : List D → Option D) : Prop := ∀ g σ env H (Q : VK) xs vs d, ER (pgOf X tb) g σ env H → RepPs (pgOf X tb) g.C H (Nn g σ env) xs vs → F xs = some d →
  (∀ v H', Step (pgOf X tb) g.C H H' → Rep (pgOf X tb) g.C H' (Nn g σ env) d v → Q v H') → r vs H Q
def eCall (F : List D → Option D) (fa : Env → T (List D)) : Env → T D := fun env => (fa env).bind fun xs => ofO (F xs)
theorem qe_callB {x : Str} {id : String} {e : Expr} {es : List Expr} {p : Pos} {r : List V → Hp → VK → Prop} {F : List D → Option D} {fa : Env → T (List D)} (hc : CallR X (.builtin id) r) (hr : CRI X tb r F) (hg : Gl X x) (hm : X.mg x = none) (hv : bootBuiltins x = some (.builtin id))
    (ha : QAP X tb W (e :: es) fa) (hs : starEach (e :: es) X.env = (false, eval e X.env) :: starEach es X.env := by rfl) (hpl : (backTo pos (starEach es X.env)).any (·.1) = false := by rfl) (hn : x ≠ "__name__" := by decide) (hdb : (x == ("__debug__" : Str)) = false := by decide) : QE X tb W (.Call (.Name x p) (e :: es) [] pos) (eCall F fa) := by
  obtain ⟨t, p1, i1⟩ := ha.ex
  refine ⟨_, pe_callB hc hg hm hv p1 hn hdb hs hpl, fun g σ env H Q E hw => ?_⟩
  unfold eCall at hw
  rw [T.wp_bind] at hw
  refine i1 g σ env H _ E (T.wp_mono (fun xs q vs H1 s1 r1 => ?_) (fun _ z => z) hw)
  cases hF : F xs with
  | none => rw [hF] at q; exact q.elim
  | some d => rw [hF] at q; exact hr g σ env H1 Q xs vs d (E.step s1) r1 hF (wpDone s1 q)
theorem qe_callTy {x : Str} {T' : String} {e : Expr} {es : List Expr} {p : Pos} {r : List V → Hp → VK → Prop} {F : List D → Option D} {fa : Env → T (List D)} (hc : CallR X (.type T') r) (hr : CRI X tb r F) (hg : Gl X x) (hm : X.mg x = none) (hv : bootBuiltins x = some (.type T'))
    (ha : QAP X tb W (e :: es) fa) (hs : starEach (e :: es) X.env = (false, eval e X.env) :: starEach es X.env := by rfl) (hpl : (backTo pos (starEach es X.env)).any (·.1) = false := by rfl) (hn : x ≠ "__name__" := by decide) (hdb : (x == ("__debug__" : Str)) = false := by decide) : QE X tb W (.Call (.Name x p) (e :: es) [] pos) (eCall F fa) := by
  obtain ⟨t, p1, i1⟩ := ha.ex
  refine ⟨_, pe_callTy hc hg hm hv p1 hn hdb hs hpl, fun g σ env H Q E hw => ?_⟩
  unfold eCall at hw
  rw [T.wp_bind] at hw
  refine i1 g σ env H _ E (T.wp_mono (fun xs q vs H1 s1 r1 => ?_) (fun _ z => z) hw)
  cases hF : F xs with
  | none => rw [hF] at q; exact q.elim
  | some d => rw [hF] at q; exact hr g σ env H1 Q xs vs d (E.step s1) r1 hF (wpDone s1 q)
end
end MM

namespace MM
open PySem PySem.Spec L2

section
variable {X : Cx} {tb : Tb} {W : WX} {pos : Pos}
def rep1 {p : Pg} {C : Addr → Prop} {H : Hp} {N : Addr → Prop} {x : D} {vs : List V} (h : RepPs p C H N [x] vs) : ∃ v, vs = [v] ∧ RepP p C H N x v := by
  obtain ⟨v, ws, rfl, r, q⟩ := h
  have q : ws = [] := q
  subst q
  exact ⟨v, rfl, r⟩
def rep2 {p : Pg} {C : Addr → Prop} {H : Hp} {N : Addr → Prop} {x y : D} {vs : List V} (h : RepPs p C H N [x, y] vs) : ∃ v w, vs = [v, w] ∧ RepP p C H N x v ∧ RepP p C H N y w := by
  obtain ⟨v, ws, rfl, r, q⟩ := h
  obtain ⟨w, rfl, q1⟩ := rep1 q
  exact ⟨v, w, rfl, r, q1⟩
/-! ### len -/
def lenL {α : Type} : List α → Nat
  | [] => 0
  | _ :: xs => Nat.succ (lenL xs)
theorem lenL_eq {α : Type} : ∀ (l : List α), lenL l = l.length
  | [] => rfl
  | _ :: xs => by simp [lenL, lenL_eq xs]
def lenD : List D → Option D
  | [.str s] => some (.int s.length)
  | [.lst s] => some (.int s.length)
  | [.tup s] => some (.int s.length)
  | _ => none
theorem call_lenD : CallR X (.builtin "len") (fun xs H Q => (∃ p ys, xs = [.ref p] ∧ (SqL X.K H p ys ∨ SqT X.K H p ys) ∧ Q (.int ys.length) H) ∨ (∃ z, xs = [.str z] ∧ z.length ≤ sizeLine ∧ Q (.int z.length) H)) := CallR.or call_len_seq call_len_str
theorem cri_len : CRI X tb (fun xs H Q => (∃ p ys, xs = [.ref p] ∧ (SqL X.K H p ys ∨ SqT X.K H p ys) ∧ Q (.int ys.length) H) ∨ (∃ z, xs = [.str z] ∧ z.length ≤ sizeLine ∧ Q (.int z.length) H)) lenD := fun g σ env H Q xs vs d E r e q => by
  unfold lenD at e
  split at e
  · rename_i s
    cases e
    obtain ⟨v, rfl, r1⟩ := rep1 r
    simp only [RepP, Rep] at r1
    exact .inr ⟨_, by rw [r1.1], by rw [sl_len]; exact r1.2.2, by rw [sl_len]; exact q _ H E.refl repI⟩
  · rename_i s
    cases e
    obtain ⟨v, rfl, r1⟩ := rep1 r
    obtain ⟨a, vs, rfl, _, ea, la, ra⟩ := r1
    refine .inl ⟨a, vs, rfl, .inl (.of ea), ?_⟩
    rw [ra.length]
    exact q _ H E.refl repI
  · rename_i s
    cases e
    obtain ⟨v, rfl, r1⟩ := rep1 r
    simp only [RepP, Rep] at r1
    obtain ⟨a, vs, rfl, ea, la, ra⟩ := r1
    refine .inl ⟨a, vs, rfl, .inr ea, ?_⟩
    rw [ra.length]
    exact q _ H E.refl repI
  · cases e
theorem qe_len {e : Expr} {p : Pos} {f : Env → T D} (hg : Gl X "len") (hm : X.mg "len" = none) (ha : QP X tb W e f) (hs : starEach [e] X.env = [(false, eval e X.env)] := by rfl) (hpl : (backTo pos (starEach [] X.env)).any (·.1) = false := by rfl) :
    QE X tb W (.Call (.Name "len" p) [e] [] pos) (eCall lenD (aCons f aNil)) := qe_callB call_lenD cri_len hg hm PySem.boot_len (qap_cons ha qap_nil hs) hs hpl
/-! ### isinstance -/
def tyOf : D → Option String
  | .non => some "NoneType" | .bl _ => some "bool" | .int _ => some "int" | .str _ => some "str" | .lst _ => some "list" | .tup _ => some "tuple" | .dic _ => some "dict" | _ => none
def isiB (t : String) (d : D) : Option Bool := match d with
  | .non => some false
  | .bl _ => some (t == "bool" || t == "int")
  | .int _ => some (t == "int")
  | .str _ => some (t == "str")
  | .lst _ => some (t == "list")
  | .tup _ => some (t == "tuple")
  | .dic _ => some (t == "dict")
  | _ => none
def goodTy (t : String) : Bool := ["int", "bool", "str", "list", "tuple", "dict"].contains t
theorem kit_good {K : PySem.W.Frag} {t : String} (h : goodTy t = true) : ∀ d a b, tyOf d = some a → isiB t d = some b → PySem.W.kitOne K (.type a) (.type t) = some b := by
  intro d a b h1 h2
  refine kit_ty ?_
  simp only [goodTy, List.contains_eq_mem, List.mem_cons, List.not_mem_nil, or_false, decide_eq_true_eq] at h
  cases d <;> first | cases h1 | skip
  all_goals (injection h2 with h2; subst h2; rcases h with rfl | rfl | rfl | rfl | rfl | rfl <;> decide +kernel)
theorem tyX_of {p : Pg} {C : Addr → Prop} {H : Hp} {N : Addr → Prop} {d : D} {v : V} {a : String} (h : RepP p C H N d v) (ht : tyOf d = some a) : TyX p.K H v (.type a) := by
  cases d with
  | non => cases ht; simp only [RepP, Rep] at h; subst h; exact .base .non
  | bl b => cases ht; simp only [RepP, Rep] at h; subst h; exact .base (.bl b)
  | int b => cases ht; simp only [RepP, Rep] at h; subst h; exact .base (.int b)
  | str b => cases ht; simp only [RepP, Rep] at h; obtain ⟨rfl, _⟩ := h; exact .base (.str _)
  | lst b => cases ht; obtain ⟨a, vs, rfl, _, e, _⟩ := h; exact .base (.lst e)
  | dic b => cases ht; obtain ⟨a, vs, rfl, _, e, _⟩ := h; exact .base (.dK e)
  | tup b =>
    cases ht
    simp only [RepP, Rep] at h
    obtain ⟨a, vs, rfl, e, _⟩ := h
    rcases e with (e | ⟨o, e⟩) | ⟨o, its, n, e, c, _⟩
    · exact .base (.tup e)
    · exact .fTuple e
    · exact .kTuple e c
  | _ => cases ht
def isiD (t : String) (d : D) : Option D := (isiB t d).map .bl
def e1 (F : D → Option D) (f : Env → T D) : Env → T D := fun env => (f env).bind fun x => ofO (F x)
theorem qe_isi {t : String} {x : Str} {e : Expr} {p p2 : Pos} {f : Env → T D} (ht : goodTy t = true) (hg : Gl X "isinstance") (hm : X.mg "isinstance" = none) (hg2 : Gl X x) (hm2 : X.mg x = none) (hv : bootBuiltins x = some (.type t)) (ha : QP X tb W e f)
    (hn2 : x ≠ "__name__" := by decide) (hd2 : (x == ("__debug__" : Str)) = false := by decide)
    (hs : starEach [e, .Name x p2] X.env = (false, eval e X.env) :: starEach [.Name x p2] X.env := by rfl) (hs2 : starEach [.Name x p2] X.env = [(false, eval (.Name x p2) X.env)] := by rfl) (hpl : (backTo pos (starEach [.Name x p2] X.env)).any (·.1) = false := by rfl) :
    QE X tb W (.Call (.Name "isinstance" p) [e, .Name x p2] [] pos) (e1 (isiD t) f) := by
  obtain ⟨te, p1, i1⟩ := ha.ex
  have pn : PE X (.Name x p2) (tC (.ty t)) := pe_bltn (v := .ty t) hg2 hm2 hv rfl hn2 hd2
  refine ⟨_, pe_callB call_isi hg hm (by decide +kernel) (pa_cons p1 (pa_cons pn pa_nil hs2) hs) (by decide) (by decide) hs hpl, fun g σ env H Q E hw => ?_⟩
  unfold e1 at hw
  rw [T.wp_bind] at hw
  refine i1 g σ env H _ E (T.wp_mono (fun d q v H1 s1 r1 => ?_) (fun _ z => z) hw)
  unfold isiD at q
  cases h1 : isiB t d with
  | none => rw [h1] at q; exact q.elim
  | some b =>
    rw [h1] at q
    obtain ⟨a, h2⟩ : ∃ a, tyOf d = some a := by cases d <;> first | exact ⟨_, rfl⟩ | cases h1
    exact ⟨v, .ty t, _, _, b, rfl, .ty t, tyX_of r1 h2, kit_good ht d a b h2 h1, q _ H1 s1 repB⟩
/-! ### all, any -/
def allBl : List D → Option (List Bool)
  | [] => some []
  | .bl b :: ds => (allBl ds).map (b :: ·)
  | _ => none
theorem allBl_rep {p : Pg} {C : Addr → Prop} {H : Hp} {N : Addr → Prop} : ∀ {ds : List D} {vs : List V} {bs : List Bool}, RepL p C H N ds vs → allBl ds = some bs → vs = bs.map V.bl
  | [], _, _, h, e => by cases e; simp only [RepL] at h; exact h
  | d :: ds, _, bs, h, e => by
    simp only [RepL] at h
    obtain ⟨v, ws, rfl, r, q⟩ := h
    cases d with
    | bl b =>
      simp only [allBl] at e
      cases h2 : allBl ds with
      | none => rw [h2] at e; cases e
      | some cs =>
        rw [h2] at e
        cases e
        simp only [Rep] at r
        subst r
        rw [allBl_rep q h2]
        rfl
    | _ => cases e
def allT : List Bool → Bool
  | [] => true
  | b :: bs => b && allT bs
def anyT : List Bool → Bool
  | [] => false
  | b :: bs => b || anyT bs
theorem allT_eq : ∀ (l : List Bool), l.all id = allT l
  | [] => rfl
  | b :: bs => by simp [allT, allT_eq bs]
theorem anyT_eq : ∀ (l : List Bool), l.any id = anyT l
  | [] => rfl
  | b :: bs => by simp [anyT, anyT_eq bs]
def allD : List D → Option D
  | [.lst ds] => (allBl ds).map fun bs => .bl (allT bs)
  | _ => none
def anyD : List D → Option D
  | [.lst ds] => (allBl ds).map fun bs => .bl (anyT bs)
  | _ => none
theorem cri_all : CRI X tb (rAll X.K) allD := fun g σ env H Q xs vs d E r e q => by
  unfold allD at e
  split at e
  · rename_i ds
    obtain ⟨v, rfl, r1⟩ := rep1 r
    obtain ⟨a, ws, rfl, _, ea, la, ra⟩ := r1
    cases h : allBl ds with
    | none => rw [h] at e; cases e
    | some bs =>
      rw [h] at e
      cases e
      have := allBl_rep ra h
      subst this
      refine ⟨a, bs, rfl, .of ea, ?_⟩
      rw [allT_eq]
      exact q _ H E.refl repB
  · cases e
theorem cri_any : CRI X tb (rAny X.K) anyD := fun g σ env H Q xs vs d E r e q => by
  unfold anyD at e
  split at e
  · rename_i ds
    obtain ⟨v, rfl, r1⟩ := rep1 r
    obtain ⟨a, ws, rfl, _, ea, la, ra⟩ := r1
    cases h : allBl ds with
    | none => rw [h] at e; cases e
    | some bs =>
      rw [h] at e
      cases e
      have := allBl_rep ra h
      subst this
      refine ⟨a, bs, rfl, .of ea, ?_⟩
      rw [anyT_eq]
      exact q _ H E.refl repB
  · cases e
theorem qe_all {e : Expr} {p : Pos} {f : Env → T D} (hc : X.calm = true) (hg : Gl X "all") (hm : X.mg "all" = none) (ha : QP X tb W e f) (hs : starEach [e] X.env = [(false, eval e X.env)] := by rfl) (hpl : (backTo pos (starEach [] X.env)).any (·.1) = false := by rfl) :
    QE X tb W (.Call (.Name "all" p) [e] [] pos) (eCall allD (aCons f aNil)) := qe_callB (cr_all hc) cri_all hg hm (by decide +kernel) (qap_cons ha qap_nil hs) hs hpl
theorem qe_any {e : Expr} {p : Pos} {f : Env → T D} (hc : X.calm = true) (hg : Gl X "any") (hm : X.mg "any" = none) (ha : QP X tb W e f) (hs : starEach [e] X.env = [(false, eval e X.env)] := by rfl) (hpl : (backTo pos (starEach [] X.env)).any (·.1) = false := by rfl) :
    QE X tb W (.Call (.Name "any" p) [e] [] pos) (eCall anyD (aCons f aNil)) := qe_callB (cr_any hc) cri_any hg hm (by decide +kernel) (qap_cons ha qap_nil hs) hs hpl

/-! ### x[i], x[a:b] -/
def ixD : D → D → Option D
  | .lst xs, .int i => (ixN xs.length i).bind fun j => xs[j]?
  | .tup xs, .int i => (ixN xs.length i).bind fun j => xs[j]?
  | .str s, .int i => (ixN s.length i).bind fun j => s[j]?.map fun c => .str [c]
  | _, _ => none
theorem r2_ix : R2I X tb (rIx X.K) ixD := fun g σ env H Q x y vx vy d E rx ry e q => by
  unfold ixD at e
  split at e
  · rename_i xs i
    obtain ⟨a, vs, rfl, _, ea, la, ra⟩ := rx
    simp only [RepP, Rep] at ry
    subst ry
    cases h : ixN xs.length i with
    | none => rw [h] at e; cases e
    | some j =>
      rw [h] at e
      obtain ⟨v, e1, r⟩ := ra.get e
      exact .inl ⟨a, vs, i, v, rfl, rfl, .of ea, by unfold atI; rw [ra.length, h]; exact e1, q v H E.refl r⟩
  · rename_i xs i
    simp only [RepP, Rep] at rx ry
    obtain ⟨a, vs, rfl, ea, la, ra⟩ := rx
    subst ry
    cases h : ixN xs.length i with
    | none => rw [h] at e; cases e
    | some j =>
      rw [h] at e
      obtain ⟨v, e1, r⟩ := ra.get e
      exact .inr (.inl ⟨a, vs, i, v, rfl, rfl, ea, by unfold atI; rw [ra.length, h]; exact e1, q v H E.refl r⟩)
  · rename_i s i
    simp only [RepP, Rep] at rx ry
    obtain ⟨rfl, h1, h2⟩ := rx
    subst ry
    cases h : ixN s.length i with
    | none => rw [h] at e; cases e
    | some j =>
      rw [h] at e
      simp only [Option.bind_some] at e
      cases hc : s[j]? with
      | none => rw [hc] at e; cases e
      | some c =>
        rw [hc] at e
        cases e
        refine .inr (.inr ⟨_, i, c, rfl, rfl, by rw [sl_len]; exact h2, ?_, q _ H E.refl (repStr (s := [c]) (fun z hz => ?_) (by rw [size16]; simp))⟩)
        · unfold atI
          simp only [sl]
          rw [h]
          exact hc
        · have : z = c := by simpa using hz
          subst this
          exact h1 z (List.mem_of_getElem? hc)
  · cases e
theorem qe_ix {a b : Expr} {f1 f2 : Env → T D} (h1 : QP X tb W a f1) (h2 : QP X tb W b f2) (hs : PlainIx b := by exact fun _ _ => rfl) : QE X tb W (.Subscript a b pos) (e2 ixD f1 f2) := by
  obtain ⟨t1, p1, i1⟩ := h1.ex
  obtain ⟨t2, p2, i2⟩ := h2.ex
  exact ⟨_, pe_ix ix_seq p1 p2 hs, imp2 r2_ix i1 i2⟩
/-- a slice's bound -/
structure QPo (X : Cx) (tb : Tb) (W : WX) (e : Option Expr) (f : Env → T (Option Int)) : Prop where
  ex : ∃ t, PO X e t ∧ ∀ g σ env H (Q : Option Int → Hp → Prop), ER (pgOf X tb) g σ env H →
    (f env).wp (fun i => ∀ H', Step (pgOf X tb) g.C H H' → Q i H') (XP (pgOf X tb) g σ H W) → t σ H Q
def oNo : Env → T (Option Int) := fun _ => .ret none
def isInt : D → Option Int
  | .int i => some i
  | _ => none
def oSo (f : Env → T D) : Env → T (Option Int) := fun env => (f env).bind fun x => (ofO (isInt x)).bind fun i => .ret (some i)
theorem qo_no : QPo X tb W none oNo := ⟨_, po_none, fun g σ env H Q E hw => hw H E.refl⟩
theorem qo_so {e : Expr} {f : Env → T D} (h : QP X tb W e f) : QPo X tb W (some e) (oSo f) := by
  obtain ⟨t, h1, h2⟩ := h.ex
  refine ⟨_, po_some h1, fun g σ env H Q E hw => ?_⟩
  unfold oSo at hw
  rw [T.wp_bind] at hw
  refine h2 g σ env H _ E (T.wp_mono (fun x q vx H1 s1 r1 => ?_) (fun _ z => z) hw)
  cases x with
  | int i => simp only [RepP, Rep] at r1; exact ⟨i, r1, q H1 s1⟩
  | _ => exact q.elim
def cutL {α : Type} (xs : List α) (lo hi : Option Int) : List α := (xs.drop (HT.sIx xs.length 0 lo)).take (HT.sIx xs.length xs.length hi - HT.sIx xs.length 0 lo)
def cutD (x : D) (lo hi : Option Int) : Option D := match x with
  | .lst xs => some (.lst (cutL xs lo hi))
  | .tup xs => some (.tup (cutL xs lo hi))
  | .str s => some (.str (cutL s lo hi))
  | _ => none
theorem RepL.cut {p : Pg} {C : Addr → Prop} {H : Hp} {N : Addr → Prop} {ds : List D} {vs : List V} (h : RepL p C H N ds vs) (lo hi : Option Int) : RepL p C H N (cutL ds lo hi) (cutV vs lo hi) := by
  unfold cutL cutV
  rw [h.length]
  exact RepL.take _ (RepL.drop _ h)
theorem cutL_len {α : Type} (xs : List α) (lo hi : Option Int) : (cutL xs lo hi).length ≤ xs.length := by
  unfold cutL
  rw [List.length_take, List.length_drop]
  omega
def rSlD (K : PySem.W.Frag) : V → Option Int → Option Int → Hp → VK → Prop := fun x lo hi H Q => rSlL K x lo hi H Q ∨ rSlA K x lo hi H Q ∨ rSlS x lo hi H Q
def eCut (f : Env → T D) (l h : Env → T (Option Int)) : Env → T D := fun env => (f env).bind fun x => (l env).bind fun lo => (h env).bind fun hi => ofO (cutD x lo hi)
theorem qe_cut {e : Expr} {lo hi : Option Expr} {p2 : Pos} {f : Env → T D} {fl fh : Env → T (Option Int)} (h1 : QP X tb W e f) (hl : QPo X tb W lo fl) (hh : QPo X tb W hi fh) : QE X tb W (.Subscript e (.Slice lo hi none p2) pos) (eCut f fl fh) := by
  obtain ⟨t1, p1, i1⟩ := h1.ex
  obtain ⟨t2, p2', i2⟩ := hl.ex
  obtain ⟨t3, p3, i3⟩ := hh.ex
  refine ⟨_, pe_slice (r := rSlD X.K) (SlR.or sl_list (SlR.or sl_tupA sl_str)) p1 p2' p3, fun g σ env H Q E hw => ?_⟩
  unfold eCut at hw
  rw [T.wp_bind] at hw
  refine i1 g σ env H _ E (T.wp_mono (fun x q vx H1 s1 r1 => ?_) (fun _ z => z) hw)
  rw [T.wp_bind] at q
  have E1 := E.step s1
  refine i2 g σ env H1 _ E1 (T.wp_mono (fun a q H2 s2 => ?_) (wpStep s1) q)
  rw [T.wp_bind] at q
  have E2 := E1.step s2
  refine i3 g σ env H2 _ E2 (T.wp_mono (fun b q H3 s3 => ?_) (wpStep (s1.trans s2)) q)
  have E3 := E2.step s3
  have r3 := (r1.step E1 s2).step E2 s3
  have s13 := s1.trans (s2.trans s3)
  cases x with
  | lst xs =>
    obtain ⟨l, vs, rfl, _, ea, la, ra⟩ := r3
    refine .inl ⟨l, vs, rfl, .of ea, fun p hp => ?_⟩
    have st := E3.alloc (o := .lst (cutV vs a b)) hp
    refine q _ _ (s13.trans st) ?_
    simp only [Rep]
    exact ⟨p, _, rfl, fun z => nOb hp (E3.there z), upd_same, Nat.le_trans (cutL_len _ _ _) la, (ra.cut a b).mv (E3.mv st)⟩
  | tup xs =>
    simp only [cutD, ofO, T.wp] at q
    simp only [RepP, Rep] at r3
    obtain ⟨l, vs, rfl, ea, la, ra⟩ := r3
    have fin : ∀ p, H3 p = none → Q (.ref p) (upd H3 p (.tup (cutV vs a b))) := fun p hp => by
      have st := E3.alloc (o := .tup (cutV vs a b)) hp
      refine q _ _ (s13.trans st) ?_
      simp only [Rep]
      exact ⟨p, _, rfl, .of upd_same, Nat.le_trans (cutL_len _ _ _) la, (ra.cut a b).mv (E3.mv st)⟩
    refine .inr (.inl ⟨l, vs, rfl, ea, fun h => ?_, fun _ => fin⟩)
    rw [ra.length] at h
    have ec : cutL xs a b = xs := by
      unfold cutL
      rw [h.1, h.2]
      simp
    rw [ec] at q
    refine q _ H3 s13 ?_
    simp only [Rep]
    exact ⟨l, vs, rfl, ea, la, ra⟩
  | str s =>
    simp only [RepP, Rep] at r3
    obtain ⟨rfl, h1, h2⟩ := r3
    refine .inr (.inr ⟨_, rfl, by rw [sl_len]; exact h2, ?_⟩)
    have e : cutS (sl s) a b = sl (cutL s a b) := by
      unfold cutS cutL
      rw [sl_len]
    rw [e]
    refine q _ H3 s13 (repStr (fun c hc => h1 c ?_) (Nat.le_trans (cutL_len _ _ _) h2))
    unfold cutL at hc
    exact List.mem_of_mem_drop (List.mem_of_mem_take hc)
  | _ => exact q.elim
end
end MM

namespace MM
open PySem PySem.Spec L2

/-! ### readings from what is computed -/
def rdE (p : Pg) (W : WX) (f : Env → T D) : TE := fun σ H Q => ∃ g env, ER p g σ env H ∧ (f env).wp (fun d => ∀ v H', Step p g.C H H' → Rep p g.C H' (Nn g σ env) d v → Q v H') (XP p g σ H W)
def rdT (p : Pg) (W : WX) (f : Env → T Bool) : TT := fun σ H Q => ∃ g env, ER p g σ env H ∧ (f env).wp (fun b => ∀ H', Step p g.C H H' → Q b H') (XP p g σ H W)
section
variable {X : Cx} {tb : Tb} {W : WX} {pos : Pos}
theorem QE.pe {e : Expr} {f : Env → T D} (h : QE X tb W e f) : PE X e (rdE (pgOf X tb) W f) := by
  obtain ⟨t, h1, h2⟩ := h.ex
  exact ⟨fun pins s σ H Q I ⟨g, env, E, hw⟩ => h1.run pins s σ H Q I (h2 g σ env H Q E hw)⟩
theorem QT.pt {e : Expr} {f : Env → T Bool} (h : QT X tb W e f) : PT X e (rdT (pgOf X tb) W f) := by
  obtain ⟨t, h1, h2⟩ := h.ex
  exact ⟨fun pins s σ H Q I ⟨g, env, E, hw⟩ => h1.run pins s σ H Q I (h2 g σ env H Q E hw)⟩

/-! ### displays -/
theorem ER.mvFloat {p : Pg} {g : Gh} {σ : St} {env : Env} {H : Hp} (E : ER p g σ env H) {a : Addr} {o : HO} (h : H a = none) : Mv (Nn g σ env) (Nn (g.fl a) σ env) H (upd H a o) := by
  have hn : ¬ Nn g σ env a := fun z => nOb h (E.there z)
  have m := E.mv (E.alloc (o := o) h)
  exact ⟨m.keep, m.tup, m.frz, fun b n hb z => by
    rcases Nn.fl.mp z with z | z
    · exact n z
    · subst z; exact nOb h hb⟩
theorem ER.free0 {p : Pg} {g : Gh} {σ : St} {env : Env} {H : Hp} (E : ER p g σ env H) {a : Addr} (h : H a = none) : ¬ g.N0 a ∧ ¬ Ob g.H0 a :=
  ⟨fun z => nOb h (E.n0 a z), fun z => nOb h (E.dom a z)⟩
theorem Step.free {p : Pg} {C : Addr → Prop} {H H1 : Hp} {a : Addr} (s : Step p C H H1) (h : H1 a = none) : ¬ Ob H a := fun z => nOb h (s.dom a z)
def eLst (fa : Env → T (List D)) : Env → T D := fun env => (fa env).bind fun xs => if xs.length ≤ 16777216 then .ret (.lst xs) else .bad
def eTup (fa : Env → T (List D)) : Env → T D := fun env => (fa env).bind fun xs => if xs.length ≤ 16777216 then .ret (.tup xs) else .bad
theorem qo_lst {es : List Expr} {fa : Env → T (List D)} (h : QA X tb W es fa) : QO X tb W (.List es pos) (eLst fa) := by
  obtain ⟨t, h1, h2⟩ := h.ex
  refine ⟨_, pe_lst h1, fun g σ env H Q E hw => ?_⟩
  unfold eLst at hw
  rw [T.wp_bind] at hw
  refine h2 g σ env H _ E (T.wp_mono (fun xs q vs H1 s1 r1 => ?_) (fun _ z => z) hw)
  split at q
  · rename_i hl
    have hz : xs.length ≤ sizeLine := by rw [size16]; exact hl
    refine ⟨by rw [r1.length]; exact hz, fun p hp => ?_⟩
    have E1 := E.step s1
    obtain ⟨n0, h0⟩ := E1.free0 hp
    refine q p _ (s1.trans (E1.alloc hp)) (E1.float hp) n0 h0 (s1.free hp) ⟨vs, upd_same, hz, r1.mv (E1.mvFloat hp)⟩
  · exact q.elim
theorem qe_tup {es : List Expr} {x1} {fa : Env → T (List D)} (h : QA X tb W es fa) : QE X tb W (.Tuple es x1 pos) (eTup fa) := by
  obtain ⟨t, h1, h2⟩ := h.ex
  refine ⟨_, pe_tup h1, fun g σ env H Q E hw => ?_⟩
  unfold eTup at hw
  rw [T.wp_bind] at hw
  refine h2 g σ env H _ E (T.wp_mono (fun xs q vs H1 s1 r1 => ?_) (fun _ z => z) hw)
  split at q
  · rename_i hl
    have hz : xs.length ≤ sizeLine := by rw [size16]; exact hl
    refine ⟨by rw [r1.length]; exact hz, fun p hp => ?_⟩
    have E1 := E.step s1
    have st := E1.alloc (o := .tup vs) hp
    refine q (.ref p) _ (s1.trans st) ?_
    simp only [Rep]
    exact ⟨p, vs, rfl, .of upd_same, hz, r1.mv (E1.mv st)⟩
  · exact q.elim

/-! ### what is walked -/
def ItR (p : Pg) (g : Gh) (σ : St) (env : Env) (H : Hp) (J : It) (ds : List D) : Prop := ∀ g2 σ2 env2 H2, ER p g2 σ2 env2 H2 → g2.C = g.C → Mv (Nn g σ env) (Nn g2 σ2 env2) H H2 → ∀ i,
  (∀ d, ds[i]? = some d → J.go i H2 ∧ ∀ x H3, J.yld i H2 x H3 → Step p g.C H2 H3 ∧ Rep p g.C H3 (Nn g2 σ2 env2) d x) ∧ (ds.length ≤ i → J.stop i H2)
structure QI (X : Cx) (tb : Tb) (W : WX) (tg it : Expr) (f : Env → T (List D)) : Prop where
  ex : ∃ wi, PI X tg it wi ∧ ∀ g σ env H (R : It → Hp → Prop), ER (pgOf X tb) g σ env H →
    (f env).wp (fun ds => ∀ J H', Step (pgOf X tb) g.C H H' → ds.length ≤ sizeLine → ItR (pgOf X tb) g σ env H' J ds → R J H') (XP (pgOf X tb) g σ H W) → wi σ H R
def rdI (p : Pg) (W : WX) (f : Env → T (List D)) : TI := fun σ H R => ∃ g env, ER p g σ env H ∧ (f env).wp (fun ds => ∀ J H', Step p g.C H H' → ds.length ≤ sizeLine → ItR p g σ env H' J ds → R J H') (XP p g σ H W)
theorem QI.pi {tg it : Expr} {f : Env → T (List D)} (h : QI X tb W tg it f) : PI X tg it (rdI (pgOf X tb) W f) := by
  obtain ⟨t, h1, h2⟩ := h.ex
  exact ⟨fun pins s σ H Q I ⟨g, env, E, hw⟩ => h1.run pins s σ H Q I (h2 g σ env H Q E hw)⟩
theorem pi_or {tg it : Expr} {w1 w2 : TI} (h1 : PI X tg it w1) (h2 : PI X tg it w2) : PI X tg it (fun σ H R => w1 σ H R ∨ w2 σ H R) :=
  ⟨fun pins s σ H R I h => h.elim (h1.run pins s σ H R I) (h2.run pins s σ H R I)⟩
/-- three ways at once, by the value -/
def iSeq (K : PySem.W.Frag) (tl : TE) : TI := fun σ H R => tl σ H fun x H1 =>
  (∃ a, x = .ref a ∧ (∃ xs, SqL K H1 a xs) ∧ R (Itl K a) H1) ∨ (∃ a, x = .ref a ∧ (∃ xs, SqT K H1 a xs) ∧ R (Itt K a) H1) ∨ ∃ x1, x = .str x1 ∧ R (Its x1) H1
theorem pi_seq {tg l : Expr} {tl : TE} (hl : PE X l tl) : PI X tg l (iSeq X.K tl) := by
  refine ⟨fun pins s σ H R I h => ?_⟩
  refine thn (hl.run pins s σ H _ I h) fun v s1 ⟨x, H1, I1, r1, q1⟩ => ?_
  rcases q1 with ⟨a, e, ⟨xs, hq⟩, q⟩ | ⟨a, e, ⟨xs, hq⟩, q⟩ | ⟨x1, e, q⟩
  · subst e
    cases r1
    obtain ⟨its, rv, p, hz⟩ := I1.list hq
    refine wpAny_pyIter_list p.isList ?_
    refine ⟨s1.heap.objs.size, [s1.heap.objs.size], _, _, H1, rfl, I1.kept (t' := s1.toks) fun b o e => Heap.get?_push_of_some _ e, turn_list a _, ⟨_, Heap.get?_push_size _ rfl, rfl, rfl⟩, fun b hb => ?_, q⟩
    have e : b = s1.heap.objs.size := by simpa using hb
    subst e
    exact I1.fpOk (Nat.le_refl _) (I1.hok.fresh (Nat.le_refl _))
  · subst e
    cases r1
    obtain ⟨its, rv, p, hz⟩ := I1.tuple hq
    refine wpAny_pyIter_tuple (show s1.heap.IsTuple a its.toArray from p) ?_
    refine ⟨s1.heap.objs.size, [s1.heap.objs.size], _, _, H1, rfl, I1.kept (t' := s1.toks) fun b o e => Heap.get?_push_of_some _ e, turn_tuple a _, ⟨_, Heap.get?_push_size _ rfl, rfl, rfl⟩, fun b hb => ?_, q⟩
    have e : b = s1.heap.objs.size := by simpa using hb
    subst e
    exact I1.fpOk (Nat.le_refl _) (I1.hok.fresh (Nat.le_refl _))
  · subst e
    obtain ⟨t, rfl⟩ := r1
    cases ha : x1.cps.all (· < 128)
    · exact wpAny_pyIter_wide ha (pi_one (tk := s1.toks) I1 _ (turn_str _ x1 t "str_iterator" (.inr rfl)) ⟨_, Heap.get?_push_size _ rfl, rfl, rfl⟩ q)
    · exact wpAny_pyIter_ascii ha (pi_one (tk := s1.toks) I1 _ (turn_str _ x1 t "str_ascii_iterator" (.inl rfl)) ⟨_, Heap.get?_push_size _ rfl, rfl, rfl⟩ q)
/-- the items of a sequence -/
def itemsD : D → Option (List D)
  | .lst xs => some xs
  | .tup xs => some xs
  | .str s => some (s.map fun c => .str [c])
  | _ => none
def iSq (f : Env → T D) : Env → T (List D) := fun env => (f env).bind fun x => ofO (itemsD x)
theorem qi_seq {tg e : Expr} {f : Env → T D} (h : QE X tb W e f) : QI X tb W tg e (iSq f) := by
  refine ⟨_, pi_seq h.pe, fun g σ env H R E hw => ⟨g, env, E, ?_⟩⟩
  unfold iSq at hw
  rw [T.wp_bind] at hw
  refine T.wp_mono (fun x q v H1 s1 r1 => ?_) (fun _ z => z) hw
  cases x with
  | lst xs =>
    simp only [itemsD, ofO, T.wp] at q
    simp only [Rep] at r1
    obtain ⟨a, vs, rfl, na, ea, la, ra⟩ := r1
    refine .inl ⟨a, rfl, ⟨vs, .of ea⟩, q _ H1 s1 la fun g2 σ2 env2 H2 E2 hC m i => ?_⟩
    have e2 : SqL X.K H2 a vs := .of (m.keep a _ ea na (fun _ => by simp) (fun _ => by simp))
    refine ⟨fun d hd => ?_, fun hl => ⟨vs, e2, by rw [ra.length]; exact hl⟩⟩
    obtain ⟨v, hv, r⟩ := ra.get hd
    refine ⟨⟨vs, v, e2, hv⟩, fun x H3 ⟨eH, y⟩ => ?_⟩
    subst eH
    have := y vs e2
    rw [hv] at this
    cases this
    exact ⟨by rw [← hC]; exact E2.refl, r.mv m⟩
  | tup xs =>
    simp only [itemsD, ofO, T.wp] at q
    simp only [Rep] at r1
    obtain ⟨a, vs, rfl, ea, la, ra⟩ := r1
    refine .inr (.inl ⟨a, rfl, ⟨vs, ea⟩, q _ H1 s1 la fun g2 σ2 env2 H2 E2 hC m i => ?_⟩)
    have e2 : SqT X.K H2 a vs := by
      rcases ea with (h | ⟨o, h⟩) | h
      · exact .inl (.inl (m.tup _ _ h))
      · exact .inl (.inr ⟨o, m.frz _ _ _ h⟩)
      · exact .inr h
    refine ⟨fun d hd => ?_, fun hl => ⟨vs, e2, by rw [ra.length]; exact hl⟩⟩
    obtain ⟨v, hv, r⟩ := ra.get hd
    refine ⟨⟨vs, v, e2, hv⟩, fun x H3 ⟨eH, y⟩ => ?_⟩
    subst eH
    have := y vs e2
    rw [hv] at this
    cases this
    exact ⟨by rw [← hC]; exact E2.refl, r.mv m⟩
  | str s =>
    simp only [itemsD, ofO, T.wp] at q
    simp only [Rep] at r1
    obtain ⟨rfl, h1, h2⟩ := r1
    refine .inr (.inr ⟨_, rfl, q _ H1 s1 (by simpa using h2) fun g2 σ2 env2 H2 E2 hC m i => ⟨fun d hd => ?_, fun hl => ?_⟩⟩)
    · rw [List.getElem?_map] at hd
      cases hc : s[i]? with
      | none => rw [hc] at hd; cases hd
      | some c =>
        rw [hc] at hd
        cases hd
        have hi : i < s.length := (List.getElem?_eq_some_iff.mp hc).1
        refine ⟨by show i < (sl s).cps.size; simpa [sl] using hi, fun x H3 ⟨eH, c', hc', ex⟩ => ?_⟩
        subst eH ex
        have : c' = c := by
          have e : s[i]? = some c' := by simpa [sl] using hc'
          rw [hc] at e; cases e; rfl
        subst this
        refine ⟨by rw [← hC]; exact E2.refl, repStr (s := [c']) (fun z hz => ?_) (by rw [size16]; simp)⟩
        have : z = c' := by simpa using hz
        subst this
        exact h1 z (List.mem_of_getElem? hc)
    · show (sl s).cps.size ≤ i
      simpa [sl] using hl
  | _ => exact q.elim
/-! ranges -/
def upto : Nat → Int → List D
  | 0, _ => []
  | n + 1, i => .int i :: upto n (i + 1)
theorem upto_len : ∀ n i, (upto n i).length = n
  | 0, _ => rfl
  | n + 1, i => by simp [upto, upto_len n]
theorem upto_get : ∀ n i k, k < n → (upto n i)[k]? = some (.int (i + k))
  | 0, _, _, h => by omega
  | n + 1, i, 0, _ => by simp [upto]
  | n + 1, i, k + 1, h => by
    simp only [upto, List.getElem?_cons_succ]
    rw [upto_get n (i + 1) k (by omega)]
    congr 2
    omega
def bnd (i : Int) : Bool := decide (-16777216 ≤ i) && decide (i ≤ 16777216)
def rng1 (xs : List D) : Option (List D) := match xs with
  | [.int j] => if bnd j then some (upto j.toNat 0) else none
  | _ => none
def rng2 (xs : List D) : Option (List D) := match xs with
  | [.int i, .int j] => if bnd i && bnd j && decide (j - i ≤ 16777216) then some (upto (j - i).toNat i) else none
  | _ => none
def iArg (F : List D → Option (List D)) (fa : Env → T (List D)) : Env → T (List D) := fun env => (fa env).bind fun xs => ofO (F xs)
theorem itr_rng {p : Pg} {g : Gh} {σ : St} {env : Env} {H : Hp} {lo : Int} {n : Nat} : ItR p g σ env H (Itr lo n) (upto n lo) := fun g2 σ2 env2 H2 E2 hC m i => by
  refine ⟨fun d hd => ?_, fun hl => by rw [upto_len] at hl; exact hl⟩
  have hi : i < n := by
    have := (List.getElem?_eq_some_iff.mp hd).1
    rwa [upto_len] at this
  refine ⟨hi, fun x H3 ⟨eH, ex⟩ => ?_⟩
  subst eH ex
  rw [upto_get n lo i hi] at hd
  cases hd
  exact ⟨by rw [← hC]; exact E2.refl, repI⟩
theorem qi_range1 {tg a : Expr} {p : Pos} {fa : Env → T (List D)} (hg : Gl X "range") (hm : X.mg "range" = none) (h : QAP X tb W [a] fa) (hs : starEach [a] X.env = [(false, eval a X.env)] := by rfl) : QI X tb W tg (.Call (.Name "range" p) [a] [] pos) (iArg rng1 fa) := by
  obtain ⟨t, h1, h2⟩ := h.ex
  refine ⟨_, pi_range1 hg hm h1 hs, fun g σ env H R E hw => ?_⟩
  unfold iArg at hw
  rw [T.wp_bind] at hw
  refine h2 g σ env H _ E (T.wp_mono (fun xs q vs H1 s1 r1 => ?_) (fun _ z => z) hw)
  unfold rng1 at q
  split at q
  · rename_i j
    split at q
    · rename_i hb
      simp only [bnd, Bool.and_eq_true, decide_eq_true_eq] at hb
      obtain ⟨v, rfl, r⟩ := rep1 r1
      simp only [RepP, Rep] at r
      exact ⟨j, by rw [r], by omega, by omega, q _ H1 s1 (by rw [upto_len, size16]; omega) itr_rng⟩
    · exact q.elim
  · exact q.elim
theorem qi_range2 {tg a b : Expr} {p : Pos} {fa : Env → T (List D)} (hg : Gl X "range") (hm : X.mg "range" = none) (h : QAP X tb W [a, b] fa) (hs : starEach [a, b] X.env = [(false, eval a X.env), (false, eval b X.env)] := by rfl) (hs2 : starEach [b] X.env = [(false, eval b X.env)] := by rfl) :
    QI X tb W tg (.Call (.Name "range" p) [a, b] [] pos) (iArg rng2 fa) := by
  obtain ⟨t, h1, h2⟩ := h.ex
  refine ⟨_, pi_range2 hg hm h1 hs hs2, fun g σ env H R E hw => ?_⟩
  unfold iArg at hw
  rw [T.wp_bind] at hw
  refine h2 g σ env H _ E (T.wp_mono (fun xs q vs H1 s1 r1 => ?_) (fun _ z => z) hw)
  unfold rng2 at q
  split at q
  · rename_i i j
    split at q
    · rename_i hb
      simp only [bnd, Bool.and_eq_true, decide_eq_true_eq] at hb
      obtain ⟨v, w, rfl, r, r'⟩ := rep2 r1
      simp only [RepP, Rep] at r r'
      exact ⟨i, j, by rw [r, r'], by omega, q _ H1 s1 (by rw [upto_len, size16]; omega) itr_rng⟩
    · exact q.elim
  · exact q.elim
/-! zip -/
def zipL : List D → List D → List D
  | a :: as, b :: bs => .tup [a, b] :: zipL as bs
  | _, _ => []
theorem zipL_get : ∀ {as bs : List D} {i : Nat} {d : D}, (zipL as bs)[i]? = some d → ∃ a b, as[i]? = some a ∧ bs[i]? = some b ∧ d = .tup [a, b]
  | [], _, _, _, h => by simp [zipL] at h
  | _ :: _, [], _, _, h => by simp [zipL] at h
  | a :: as, b :: bs, 0, d, h => by
    simp [zipL] at h
    exact ⟨a, b, rfl, rfl, h.symm⟩
  | a :: as, b :: bs, i + 1, d, h => by
    simp only [zipL, List.getElem?_cons_succ] at h
    obtain ⟨x, y, h1, h2, h3⟩ := zipL_get h
    exact ⟨x, y, by simpa using h1, by simpa using h2, h3⟩
theorem zipL_len : ∀ {as bs : List D}, (zipL as bs).length = min as.length bs.length
  | [], _ => by simp [zipL]
  | _ :: _, [] => by simp [zipL]
  | a :: as, b :: bs => by simp only [zipL, List.length_cons, zipL_len (as := as)]; omega
def zipD (xs : List D) : Option (List D) := match xs with
  | [.lst a, .lst b] => some (zipL a b)
  | [.tup a, .tup b] => some (zipL a b)
  | _ => none
theorem ra2 {p : Pg} {C : Addr → Prop} {H : Hp} {N : Addr → Prop} {x y : D} {vs : List V} (h : RepL p C H N [x, y] vs) : ∃ v w, vs = [v, w] ∧ Rep p C H N x v ∧ Rep p C H N y w := by
  simp only [RepL] at h
  obtain ⟨v, ws, rfl, r, w, us, rfl, r', rfl⟩ := h
  exact ⟨v, w, rfl, r, r'⟩
theorem pair_new {p : Pg} {g2 : Gh} {C : Addr → Prop} (hC : g2.C = C) {σ2 : St} {env2 : Env} {H2 : Hp} (E2 : ER p g2 σ2 env2 H2) {t : Addr} {x y : V} {a b : D} (ht : H2 t = none) (ra : Rep p C H2 (Nn g2 σ2 env2) a x) (rb : Rep p C H2 (Nn g2 σ2 env2) b y) :
    Step p C H2 (upd H2 t (.tup [x, y])) ∧ Rep p C (upd H2 t (.tup [x, y])) (Nn g2 σ2 env2) (.tup [a, b]) (.ref t) := by
  subst hC
  have st := E2.alloc (o := .tup [x, y]) ht
  refine ⟨st, ?_⟩
  simp only [Rep]
  exact ⟨t, _, rfl, .of upd_same, by rw [size16]; simp, .cons (ra.mv (E2.mv st)) (.one (rb.mv (E2.mv st)))⟩
theorem qi_zip {e e2 : Expr} {p tpos : Pos} {elts : List Expr} {kk : Nat} {fa : Env → T (List D)} (hg : Gl X "zip") (hm : X.mg "zip" = none) (h : QA X tb W [e, e2] fa)
    (hs : starEach [e, e2] X.env = (false, eval e X.env) :: starEach [e2] X.env := by rfl) (hpl : (backTo pos (starEach [e2] X.env)).any (·.1) = false := by rfl) :
    QI X tb W (.Tuple elts kk tpos) (.Call (.Name "zip" p) [e, e2] [] pos) (iArg zipD fa) := by
  obtain ⟨t, h1, h2⟩ := h.ex
  refine ⟨_, RZ.pi_zipA hg hm h1 hs hpl, fun g σ env H R E hw => ?_⟩
  unfold iArg at hw
  rw [T.wp_bind] at hw
  refine h2 g σ env H _ E (T.wp_mono (fun xs q vs H1 s1 r1 => ?_) (fun _ z => z) hw)
  unfold zipD at q
  split at q
  · rename_i as bs
    obtain ⟨v, w, rfl, r, r'⟩ := ra2 r1
    simp only [Rep] at r r'
    obtain ⟨a, vs, rfl, na, ea, la, ra⟩ := r
    obtain ⟨b, ws, rfl, nb, eb, lb, rb⟩ := r'
    refine ⟨a, b, vs, ws, rfl, .inl ⟨.of ea, .of eb, q _ H1 s1 (by rw [zipL_len]; omega) fun g2 σ2 env2 H2 E2 hC m i => ?_⟩⟩
    have e1 : SqL X.K H2 a vs := .of (m.keep a _ ea na (fun _ => by simp) (fun _ => by simp))
    have e2 : SqL X.K H2 b ws := .of (m.keep b _ eb nb (fun _ => by simp) (fun _ => by simp))
    refine ⟨fun d hd => ?_, fun hl => ⟨vs, ws, e1, e2, by rw [zipL_len] at hl; rw [ra.length, rb.length]; omega⟩⟩
    obtain ⟨x, y, hx, hy, rfl⟩ := zipL_get hd
    obtain ⟨vx, hvx, rx⟩ := ra.get hx
    obtain ⟨vy, hvy, ry⟩ := rb.get hy
    refine ⟨⟨vs, ws, vx, vy, e1, e2, hvx, hvy⟩, fun z H3 ⟨t, x', y', ez, ht, eH, q1, q2⟩ => ?_⟩
    subst ez eH
    have h1 := q1 vs e1
    rw [hvx] at h1; cases h1
    have h2 := q2 ws e2
    rw [hvy] at h2; cases h2
    exact pair_new hC E2 ht (rx.mv m) (ry.mv m)
  · rename_i as bs
    obtain ⟨v, w, rfl, r, r'⟩ := ra2 r1
    simp only [Rep] at r r'
    obtain ⟨a, vs, rfl, ea, la, ra⟩ := r
    obtain ⟨b, ws, rfl, eb, lb, rb⟩ := r'
    refine ⟨a, b, vs, ws, rfl, .inr ⟨ea, eb, q _ H1 s1 (by rw [zipL_len]; omega) fun g2 σ2 env2 H2 E2 hC m i => ?_⟩⟩
    have keep : ∀ {c : Addr} {us : List V}, SqT X.K H1 c us → SqT X.K H2 c us := fun {c us} ea => by
      rcases ea with (h | ⟨o, h⟩) | h
      · exact .inl (.inl (m.tup _ _ h))
      · exact .inl (.inr ⟨o, m.frz _ _ _ h⟩)
      · exact .inr h
    have e1 := keep ea
    have e2 := keep eb
    refine ⟨fun d hd => ?_, fun hl => ⟨vs, ws, e1, e2, by rw [zipL_len] at hl; rw [ra.length, rb.length]; omega⟩⟩
    obtain ⟨x, y, hx, hy, rfl⟩ := zipL_get hd
    obtain ⟨vx, hvx, rx⟩ := ra.get hx
    obtain ⟨vy, hvy, ry⟩ := rb.get hy
    refine ⟨⟨vs, ws, vx, vy, e1, e2, hvx, hvy⟩, fun z H3 ⟨t, x', y', ez, ht, eH, q1, q2⟩ => ?_⟩
    subst ez eH
    have h1 := q1 vs e1
    rw [hvx] at h1; cases h1
    have h2 := q2 ws e2
    rw [hvy] at h2; cases h2
    exact pair_new hC E2 ht (rx.mv m) (ry.mv m)
  · exact q.elim

/-! ### targets -/
structure QG (X : Cx) (tg : Expr) (is : List Nat) (f : D → Env → Option Env) : Prop where
  ex : ∃ gt, PG X tg gt ∧ ∀ (p : Pg) g σ env H (Q : St → Hp → Prop) d v env', p.K = X.K → ER p g σ env H → Rep p g.C H (Nn g σ env) d v → f d env = some env' →
    (∀ σ', ER p g σ' env' H → SStep g σ env H σ' env' H → (∀ j, j ∉ is → σ'[j]? = σ[j]?) → Q σ' H) → gt v σ H Q
  st : ∀ d env env', f d env = some env' → env'.length = env.length ∧ (∀ j, j ∉ is → env'[j]? = env[j]?) ∧ ∀ j, j ∈ is → ∀ e, env'[j]? ≠ some (.own e)
def rdG (K : PySem.W.Frag) (is : List Nat) (f : D → Env → Option Env) : TG := fun v σ H Q => ∃ (p : Pg) (g : Gh) (env : Env) (d : D) (env' : Env), p.K = K ∧ ER p g σ env H ∧ Rep p g.C H (Nn g σ env) d v ∧ f d env = some env' ∧
    ∀ σ', ER p g σ' env' H → SStep g σ env H σ' env' H → (∀ j, j ∉ is → σ'[j]? = σ[j]?) → Q σ' H
theorem QG.pg {tg : Expr} {is : List Nat} {f : D → Env → Option Env} (h : QG X tg is f) : PG X tg (rdG X.K is f) := by
  obtain ⟨t, h1, h2⟩ := h.ex
  exact ⟨fun pins s σ H v u Q I r ⟨p, g, env, d, env', hK, E, rp, hf, q⟩ => h1.run pins s σ H v u Q I r (h2 p g σ env H Q d v env' hK E rp hf q)⟩
def sName (i : Nat) : D → Env → Option Env := fun d env => if i < env.length then some (env.set i (.frz d)) else none
theorem SStep.setF {g : Gh} {σ : St} {env : Env} {H : Hp} {i : Nat} {v : Option V} {d : D} : SStep g σ env H (σ.set i v) (env.set i (.frz d)) H := SStep.sub fun b _ z => Nn.set_frz z
theorem qg_name {i : Nat} {x : Str} (hN : X.N.Nodup) (hi : X.N[i]? = some x := by rfl) (hx : Loc X.env.scope x := by first | exact Or.inl rfl | exact Or.inr rfl) (hf : X.fn x = true ∨ X.env.scope.names.lookup x = some .local := by first | exact .inl rfl | exact .inr rfl | assumption) : QG X (.Name x pos) [i] (sName i) where
  ex := by
    refine ⟨_, pg_name hN hi hx hf, fun p g σ env H Q d v env' hK E r hf q => ?_⟩
    unfold sName at hf
    split at hf
    · rename_i hl
      cases hf
      exact q _ (E.setF hl r) SStep.setF fun j hj => by rw [List.getElem?_set_ne (fun z => hj (by simp [z]))]
    · cases hf
  st := fun d env env' hf => by
    unfold sName at hf
    split at hf
    · cases hf
      refine ⟨by simp, fun j hj => by rw [List.getElem?_set_ne (fun z => hj (by simp [z]))], fun j hj e he => ?_⟩
      have : j = i := by simpa using hj
      subst this
      cases set_self_eq he
    · cases hf
def gNames : List Nat → TGs
  | [] => gNil
  | i :: is => gCons (gName i) (gNames is)
def setAll : List Nat → List D → Env → Option Env
  | [], [], env => some env
  | i :: is, d :: ds, env => if i < env.length then setAll is ds (env.set i (.frz d)) else none
  | _, _, _ => none
theorem setAll_ok {p : Pg} {g : Gh} {H : Hp} {Q : St → Hp → Prop} : ∀ {is : List Nat} {ds : List D} {vs : List V} {σ : St} {env env' : Env}, ER p g σ env H → RepL p g.C H (Nn g σ env) ds vs → setAll is ds env = some env' →
    (∀ σ', ER p g σ' env' H → SStep g σ env H σ' env' H → (∀ j, j ∉ is → σ'[j]? = σ[j]?) → Q σ' H) → gNames is vs σ H Q
  | [], [], vs, σ, env, env', E, r, e, q => by
    simp only [RepL] at r
    subst r
    cases e
    exact ⟨rfl, q σ E SStep.refl fun _ _ => rfl⟩
  | i :: is, d :: ds, vs, σ, env, env', E, r, e, q => by
    simp only [RepL] at r
    obtain ⟨v, ws, rfl, r1, r2⟩ := r
    simp only [setAll] at e
    split at e
    · rename_i hl
      have E1 := E.setF hl r1
      have s1 : SStep g σ env H (σ.set i (some v)) (env.set i (.frz d)) H := SStep.setF
      refine ⟨v, ws, rfl, setAll_ok E1 (r2.mv s1.mv) e fun σ' E' s' h' => q σ' E' (s1.trans s') fun j hj => ?_⟩
      simp only [List.mem_cons, not_or] at hj
      rw [h' j hj.2, List.getElem?_set_ne (fun z => hj.1 z.symm)]
    · cases e
  | [], _ :: _, _, _, _, _, _, _, e, _ => by cases e
  | _ :: _, [], _, _, _, _, _, _, e, _ => by cases e
theorem setAll_st : ∀ {is : List Nat} {ds : List D} {env env' : Env}, setAll is ds env = some env' → env'.length = env.length ∧ (∀ j, j ∉ is → env'[j]? = env[j]?) ∧ ∀ j, j ∈ is → ∀ e, env'[j]? ≠ some (.own e)
  | [], [], env, env', e => by cases e; exact ⟨rfl, fun _ _ => rfl, fun _ h => by cases h⟩
  | i :: is, d :: ds, env, env', e => by
    simp only [setAll] at e
    split at e
    · obtain ⟨h1, h2, h3⟩ := setAll_st e
      refine ⟨by rw [h1]; simp, fun j hj => ?_, fun j hj x hx => ?_⟩
      · simp only [List.mem_cons, not_or] at hj
        rw [h2 j hj.2, List.getElem?_set_ne (fun z => hj.1 z.symm)]
      · by_cases hm : j ∈ is
        · exact h3 j hm x hx
        · have : j = i := by
            rcases List.mem_cons.mp hj with z | z
            · exact z
            · exact absurd z hm
          subst this
          rw [h2 j hm] at hx
          cases set_self_eq hx
    · cases e
  | [], _ :: _, _, _, e => by cases e
  | _ :: _, [], _, _, e => by cases e
def sTup (is : List Nat) : D → Env → Option Env := fun d env => match d with
  | .tup ds => setAll is ds env
  | _ => none
theorem setAll_len : ∀ {is : List Nat} {ds : List D} {env env' : Env}, setAll is ds env = some env' → ds.length = is.length
  | [], [], _, _, _ => rfl
  | i :: is, d :: ds, env, env', e => by
    simp only [setAll] at e
    split at e
    · simp [setAll_len e]
    · cases e
  | [], _ :: _, _, _, e => by cases e
  | _ :: _, [], _, _, e => by cases e
theorem qg_tup {es : List Expr} {k n : Nat} (is : List Nat) (hc : X.calm = true) (h : PGs X es (gNames is)) (hl : is.length = n := by rfl) (hn : (assignEach es X.env).length = n := by rfl) (hst : (assignEach es X.env).findIdx? (·.1) = none := by rfl) : QG X (.Tuple es k pos) is (sTup is) where
  ex := by
    refine ⟨_, pg_tup (n := n) hc h hn hst, fun p g σ env H Q d v env' hK E r hf q => ?_⟩
    cases d with
    | tup ds =>
      simp only [Rep] at r
      obtain ⟨a, vs, rfl, ea, la, ra⟩ := r
      rw [hK] at ea
      exact ⟨a, vs, rfl, ea, by rw [ra.length, setAll_len (show setAll is ds env = some env' from hf), hl], setAll_ok E ra hf q⟩
    | _ => cases hf
  st := fun d env env' hf => by
    cases d with
    | tup ds => exact setAll_st (show setAll is ds env = some env' from hf)
    | _ => cases hf
end
end MM

namespace MM
open PySem PySem.Spec L2

namespace T
def noX {α : Type} : T α → T α
  | .ret a => .ret a
  | .exc _ => .bad
  | .bad => .bad
  | .draw n k => .draw n fun i => (k i).noX
theorem wp_noX {α : Type} {Q : α → Prop} {E E' : Ex → Prop} : ∀ {t : T α}, t.noX.wp Q E → t.wp Q E'
  | .ret a, h => h
  | .exc e, h => h.elim
  | .bad, h => h
  | .draw n k, h => ⟨h.1, fun i hi => wp_noX (h.2 i hi)⟩
end T
def WF : WX := fun _ _ _ _ => False
def compL (tgt : D → Env → Option Env) (cond : Env → T Bool) (elt : Env → T D) (env0 : Env) : List D → T (List D)
  | [] => .ret []
  | d :: ds => (ofO (tgt d env0)).bind fun e => (cond e).noX.bind fun b => if b then (elt e).noX.bind fun y => (compL tgt cond elt env0 ds).bind fun ys => .ret (y :: ys) else compL tgt cond elt env0 ds
def wipeE (env : Env) : List Nat → Env
  | [] => env
  | v :: vs => (wipeE env vs).set v .no
def isOwn : Option Sl → Bool
  | some (.own _) => true
  | _ => false
def noOwn (env : Env) (vs : List Nat) : Bool := vs.all fun v => !isOwn env[v]?
def eComp (it : Env → T (List D)) (vs : List Nat) (tgt : D → Env → Option Env) (cond : Env → T Bool) (elt : Env → T D) : Env → T D := fun env =>
  (it env).bind fun ds => if noOwn env vs then (compL tgt cond elt (wipeE env vs) ds).bind fun ys => .ret (.lst ys) else .bad
def tYesB : Env → T Bool := fun _ => .ret true

theorem wipeE_len {env : Env} : ∀ {vs : List Nat}, (wipeE env vs).length = env.length
  | [] => rfl
  | v :: vs => by simp [wipeE, wipeE_len]
theorem wipeE_get {env : Env} {j : Nat} : ∀ {vs : List Nat}, j ∉ vs → (wipeE env vs)[j]? = env[j]?
  | [], _ => rfl
  | v :: vs, h => by
    simp only [List.mem_cons, not_or] at h
    simp only [wipeE]
    rw [List.getElem?_set_ne (fun z => h.1 z.symm), wipeE_get h.2]
theorem wipeE_in {env : Env} {j : Nat} {e : D} : ∀ {vs : List Nat}, j ∈ vs → (wipeE env vs)[j]? ≠ some (.own e)
  | v :: vs, h, hx => by
    simp only [wipeE] at hx
    by_cases hj : j = v
    · subst hj; cases set_self_eq hx
    · rw [List.getElem?_set_ne (fun z => hj z.symm)] at hx
      rcases List.mem_cons.mp h with z | z
      · exact hj z
      · exact wipeE_in z hx
theorem wipe_get {σ : St} {j : Nat} : ∀ {vs : List Nat}, j ∉ vs → (wipe σ vs)[j]? = σ[j]?
  | [], _ => rfl
  | v :: vs, h => by
    simp only [List.mem_cons, not_or] at h
    simp only [wipe]
    rw [List.getElem?_set_ne (fun z => h.1 z.symm), wipe_get h.2]
theorem wipe_in {σ : St} {j : Nat} : ∀ {vs : List Nat}, j ∈ vs → j < σ.length → (wipe σ vs)[j]? = some none
  | v :: vs, h, hl => by
    simp only [wipe]
    by_cases hj : j = v
    · subst hj; rw [List.getElem?_set_self (by rw [wipe_length]; exact hl)]
    · rw [List.getElem?_set_ne (fun z => hj z.symm)]
      rcases List.mem_cons.mp h with z | z
      · exact absurd z hj
      · exact wipe_in z hl
theorem wipe_ext {σ τ : St} {vs : List Nat} (hl : σ.length = τ.length) (h : ∀ j, j ∉ vs → σ[j]? = τ[j]?) : wipe σ vs = wipe τ vs := by
  apply List.ext_getElem?
  intro j
  by_cases hj : j ∈ vs
  · by_cases hb : j < σ.length
    · rw [wipe_in hj hb, wipe_in hj (by rw [← hl]; exact hb)]
    · rw [List.getElem?_eq_none (by rw [wipe_length]; omega), List.getElem?_eq_none (by rw [wipe_length]; omega)]
  · rw [wipe_get hj, wipe_get hj, h j hj]
section
variable {p : Pg} {g : Gh} {σ : St} {env : Env} {H : Hp}
theorem ER.wipe (E : ER p g σ env H) : ∀ vs : List Nat, ER p g (wipe σ vs) (wipeE env vs) H
  | [] => E
  | v :: vs => (ER.wipe E vs).setN
theorem noOwn_at {vs : List Nat} (h : noOwn env vs = true) {j : Nat} (hj : j ∈ vs) (e : D) : env[j]? ≠ some (.own e) := fun z => by
  unfold noOwn at h
  rw [List.all_eq_true] at h
  have := h j hj
  rw [z] at this
  cases this
/-- the slots vs aside, two states own alike -/
theorem Nn_same {vs : List Nat} {σ' : St} {env' : Env} (h1 : ∀ j, j ∈ vs → ∀ e, env[j]? ≠ some (.own e)) (h2 : ∀ j, j ∈ vs → ∀ e, env'[j]? ≠ some (.own e)) (hs : ∀ j, j ∉ vs → σ'[j]? = σ[j]?) (he : ∀ j, j ∉ vs → env'[j]? = env[j]?) : Nn g σ' env' = Nn g σ env := by
  funext a
  apply propext
  unfold Nn OwnAt
  constructor
  · rintro (h | ⟨j, ⟨d, e⟩, q⟩)
    · exact .inl h
    · by_cases hj : j ∈ vs
      · exact absurd e (h2 j hj d)
      · exact .inr ⟨j, ⟨d, by rw [← he j hj]; exact e⟩, by rw [← hs j hj]; exact q⟩
  · rintro (h | ⟨j, ⟨d, e⟩, q⟩)
    · exact .inl h
    · by_cases hj : j ∈ vs
      · exact absurd e (h1 j hj d)
      · exact .inr ⟨j, ⟨d, by rw [he j hj]; exact e⟩, by rw [hs j hj]; exact q⟩
/-- what floats is written -/
theorem ER.writeFl {a : Addr} {xs ys : List V} (E : ER p (g.fl a) σ env H) (h : H a = some (.lst xs)) (nc : ¬ g.C a) (h0 : ¬ Ob g.H0 a) :
    ER p (g.fl a) σ env (upd H a (.lst ys)) ∧ Mv (Nn (g.fl a) σ env) (Nn (g.fl a) σ env) H (upd H a (.lst ys)) ∧ (∀ H1, Step p g.C H1 H → ¬ Ob H1 a → Step p g.C H1 (upd H a (.lst ys))) := by
  have hNa : Nn (g.fl a) σ env a := .inl (.inr rfl)
  have oth : ∀ b u, H b = some u → (∀ vs, u ≠ .lst vs) → upd H a (.lst ys) b = some u := fun b u hu n1 => by
    rw [upd_ne]
    · exact hu
    · rintro rfl
      rw [h] at hu; cases hu
      exact n1 _ rfl
  have mv : Mv (Nn (g.fl a) σ env) (Nn (g.fl a) σ env) H (upd H a (.lst ys)) := ⟨fun b u hu n _ _ => by
      rw [upd_ne (show b ≠ a from fun z => n (by rw [z]; exact hNa))]; exact hu, fun b xs hb => oth b _ hb (fun _ => by simp), fun b u w hb => oth b _ hb (fun _ => by simp), fun _ n _ => n⟩
  have dm : ∀ b, Ob H b → Ob (upd H a (.lst ys)) b := fun b ⟨u, e, t⟩ => by
    by_cases z : b = a
    · subst z; exact ⟨_, upd_same, fun _ => by simp⟩
    · exact ⟨u, by rw [upd_ne z]; exact e, t⟩
  have cupk : ∀ b, g.C b → CupAt (upd H a (.lst ys)) b := fun b c => by
    obtain ⟨x, y, e, q⟩ := E.cup b c
    refine ⟨x, y, ?_, q⟩
    rw [upd_ne (show b ≠ a from fun z => nc (by rw [← z]; exact c))]; exact e
  have tabk : LamX.Tabs p.tb.l (upd H a (.lst ys)) := by
    intro q hq
    obtain ⟨ps, hps, tr, hc⟩ := E.tabs q hq
    refine ⟨ps, oth _ _ hps (fun _ => by simp), tr, fun pos cv hcv => ?_⟩
    obtain ⟨c, e, hc⟩ := hc pos cv hcv
    exact ⟨c, e, oth _ _ hc (fun _ => by simp [LamX.CodeO])⟩
  refine ⟨⟨E.len, fun b u hu n t => ?_, fun b hb => dm b (E.dom b hb), cupk, tabk, fun b z => dm b (E.n0 b z), ?_, E.uniq, E.fresh, E.th⟩, mv, fun H1 s hf => ⟨fun b u hu n t => ?_, cupk, tabk, fun b hb => dm b (s.dom b hb)⟩⟩
  · have z : b ≠ a := fun z => h0 ⟨u, by rw [← z]; exact hu, t⟩
    rw [upd_ne z]; exact E.keep b u hu n t
  · intro j x hx
    have q := E.slot j x hx
    cases x with
    | no => trivial
    | frz d => obtain ⟨w, e, r⟩ := q; exact ⟨w, e, r.mv mv⟩
    | own d2 =>
      obtain ⟨b, e, r⟩ := q
      refine ⟨b, e, r.mv mv fun u hu _ => ?_⟩
      rw [upd_ne]
      · exact hu
      · rintro rfl
        exact (E.fresh j _ ⟨⟨d2, hx⟩, e⟩).1 (.inr rfl)
  · have z : b ≠ a := fun z => hf ⟨u, by rw [← z]; exact hu, t⟩
    rw [upd_ne z]; exact s.grow b u hu n t
end
section
variable {X : Cx} {tb : Tb} {W : WX} {pos : Pos}
theorem imp_lc {itf : Env → T (List D)} {vs is : List Nat} {tgt : D → Env → Option Env} {cond : Env → T Bool} {elt : Env → T D} {K : PySem.W.Frag} {p : Pg} (hK : p.K = K)
    (hst : ∀ d env env', tgt d env = some env' → env'.length = env.length ∧ (∀ j, j ∉ is → env'[j]? = env[j]?) ∧ ∀ j, j ∈ is → ∀ e, env'[j]? ≠ some (.own e)) (hsub : ∀ j ∈ is, j ∈ vs) :
    ImpO p W (tLc (rdI p W itf) (rdG K is tgt) (rdT p WF cond) (rdE p WF elt) vs) (eComp itf vs tgt cond elt) := fun g σ env H Q E hw => by
  unfold eComp at hw
  rw [T.wp_bind] at hw
  refine ⟨g, env, E, T.wp_mono (fun ds q J H1 s1 hds hJ => ?_) (fun _ z => z) hw⟩
  split at q
  rotate_left
  · exact q.elim
  rename_i hown
  rw [T.wp_bind] at q
  intro a ha
  have E1 := E.step s1
  obtain ⟨n0, h0⟩ := E1.free0 ha
  have nc : ¬ g.C a := fun c => n0 (g.hC a c)
  refine ⟨fun i m H2 => i + m = ds.length ∧ ∃ acc vacc, H2 a = some (.lst vacc) ∧ acc.length ≤ i ∧ RepL p g.C H2 (Nn (g.fl a) σ env) acc vacc ∧ ER p (g.fl a) σ env H2 ∧ Step p g.C H1 H2 ∧
    (compL tgt cond elt (wipeE env vs) (ds.drop i)).wp (fun ys => ∀ a' H', Step p g.C H H' → ER p (g.fl a') σ env H' → ¬ g.N0 a' → ¬ Ob g.H0 a' → ¬ Ob H a' → OwnRep p g.C H' (Nn (g.fl a') σ env) (.lst (acc ++ ys)) a' → Q (.ref a') H') (XP p g σ H W), ?_, ?_⟩
  · exact ⟨ds.length, by omega, [], [], upd_same, Nat.le_refl _, .nil, E1.float ha, E1.alloc ha, by simp only [List.drop_zero, List.nil_append]; exact q⟩
  rintro i m H2 ⟨him, acc, vacc, hD, hacc, racc, E2, s12, hq⟩
  have mvJ : Mv (Nn g σ env) (Nn (g.fl a) σ env) H1 H2 := by
    have m1 := s12.mv E1.cup E1.nC
    exact ⟨m1.keep, m1.tup, m1.frz, fun b n hb z => by
      rcases Nn.fl.mp z with z | z
      · exact n z
      · subst z; exact nOb ha hb⟩
  obtain ⟨hgo, hstop⟩ := hJ (g.fl a) σ env H2 E2 rfl mvJ i
  by_cases hi : i < ds.length
  rotate_left
  · refine .inl ⟨hstop (by omega), ?_⟩
    rw [List.drop_of_length_le (by omega)] at hq
    simp only [compL, T.wp, List.append_nil] at hq
    exact hq a H2 (s1.trans s12) E2 n0 h0 (s1.free ha) ⟨vacc, hD, by omega, racc⟩
  have hdi : ds[i]? = some ds[i] := List.getElem?_eq_getElem hi
  obtain ⟨hgo1, hy⟩ := hgo _ hdi
  refine .inr ⟨hgo1, fun H' => ∃ m', m' < m ∧ _, fun H' h => h, fun x H3 hyl => ?_⟩
  obtain ⟨s23, rx⟩ := hy x H3 hyl
  have E3 := E2.step (g := g.fl a) s23
  rw [List.drop_eq_getElem_cons hi] at hq
  simp only [compL] at hq
  rw [T.wp_bind] at hq
  cases ht : tgt ds[i] (wipeE env vs) with
  | none => rw [ht] at hq; exact hq.elim
  | some env' =>
    rw [ht] at hq
    simp only [ofO, T.wp] at hq
    obtain ⟨el, e1, e2⟩ := hst _ _ _ ht
    have Nw : Nn (g.fl a) (wipe σ vs) (wipeE env vs) = Nn (g.fl a) σ env := Nn_same (vs := vs) (fun j hj e => noOwn_at hown hj e) (fun j hj e => wipeE_in hj) (fun j hj => wipe_get hj) (fun j hj => wipeE_get hj)
    refine ⟨p, g.fl a, wipeE env vs, ds[i], env', hK, E3.wipe vs, by rw [Nw]; exact rx, ht, fun σ' E' S' hj => ?_⟩
    have hl' : σ'.length = (wipe σ vs).length := by rw [E'.len, el, wipeE_len, wipe_length, E3.len]
    have hsig : ∀ j, j ∉ vs → σ'[j]? = σ[j]? := fun j hjv => by rw [hj j (fun z => hjv (hsub j z)), wipe_get hjv]
    have Nn' : Nn (g.fl a) σ' env' = Nn (g.fl a) σ env := Nn_same (vs := vs) (fun j hj e => noOwn_at hown hj e) (fun j hjv e => by
        by_cases hji : j ∈ is
        · exact e2 j hji e
        · rw [e1 j hji]; exact wipeE_in hjv) hsig (fun j hjv => by rw [e1 j (fun z => hjv (hsub j z)), wipeE_get hjv])
    refine ⟨wipe_ext (by rw [hl', wipe_length]) hsig, g.fl a, env', E', ?_⟩
    rw [T.wp_bind] at hq
    refine T.wp_mono (fun b hq H4 s34 => ?_) (fun _ z => z) (T.wp_noX hq)
    have E4 := E'.step s34
    have E4' := E3.step (g := g.fl a) s34
    have s14 : Step p g.C H1 H4 := s12.trans (s23.trans s34)
    have hD4 : H4 a = some (.lst vacc) := s34.grow a _ (s23.grow a _ hD nc (fun _ => by simp)) nc (fun _ => by simp)
    have racc4 : RepL p g.C H4 (Nn (g.fl a) σ env) acc vacc := (racc.mv (E2.mv s23)).mv (E3.mv s34)
    cases b with
    | false =>
      rw [if_neg (by simp)] at hq
      refine iteF ?_
      exact ⟨m - 1, by omega, by omega, acc, vacc, hD4, by omega, racc4, E4', s14, hq⟩
    | true =>
      rw [if_pos rfl] at hq
      refine iteT ?_
      refine ⟨g.fl a, env', E4, ?_⟩
      rw [T.wp_bind] at hq
      refine T.wp_mono (fun y hq v H5 s45 ry => ?_) (fun _ z => z) (T.wp_noX hq)
      rw [T.wp_bind] at hq
      rw [Nn'] at ry
      have E5 := E4'.step (g := g.fl a) s45
      have hD5 : H5 a = some (.lst vacc) := s45.grow a _ hD4 nc (fun _ => by simp)
      have racc5 := racc4.mv (E4'.mv s45)
      have hvl : vacc.length = acc.length := racc4.length
      refine ⟨vacc, hD5, by rw [hvl]; omega, m - 1, by omega, by omega, acc ++ [y], vacc ++ [v], upd_same, by simp; omega, ?_⟩
      obtain ⟨w1, w2, w3⟩ := ER.writeFl (ys := vacc ++ [v]) E5 hD5 nc h0
      refine ⟨(racc5.app (.one ry)).mv w2, w1, w3 H1 (s14.trans s45) (nOb ha), T.wp_mono (fun ys h => ?_) (fun _ z => z) hq⟩
      intro a' H' s' E'' n' h' hf' o'
      rw [List.append_assoc] at o'
      exact h a' H' s' E'' n' h' hf' o'
/-- a clause's tests -/
structure QTs (X : Cx) (tb : Tb) (W : WX) (ifs : List Expr) (f : Env → T Bool) : Prop where
  pts : PTs X ifs (rdT (pgOf X tb) W f)
theorem qts_nil : QTs X tb W [] tYesB := ⟨⟨fun pins s σ H Q I ⟨g, env, E, hw⟩ => pts_nil.run pins s σ H Q I (hw H E.refl)⟩⟩
theorem qts_one {c : Expr} {f : Env → T Bool} (h : QT X tb W c f) : QTs X tb W [c] f := ⟨pts_one h.pt⟩
abbrev subAll (is vs : List Nat) : Bool := is.all fun j => vs.contains j
theorem subAll_of {is vs : List Nat} (h : subAll is vs = true) : ∀ j ∈ is, j ∈ vs := fun j hj => by
  have := List.all_eq_true.mp h j hj
  simpa using this
theorem qo_lc {elt tg iter : Expr} {ifs : List Expr} {scope : Scope} {pos : Pos} {itf : Env → T (List D)} {is : List Nat} {tgt : D → Env → Option Env} {cond : Env → T Bool} {ef : Env → T D} (own : List (Str × Nat))
    (hc : X.calm = true) (hN : X.N.Nodup) (hi : QI X tb W tg iter itf) (hb : blkC X.N X.env.scope scope own = true) 
    (hg : ∀ (s : Shared) (H : Hp) (C : Addr) (cl : List (Str × Addr)) (fp : List Addr), QG (X.blk s H scope (compEnvC scope cl C X.env) fp) tg is tgt)
    (ht : ∀ (s : Shared) (H : Hp) (C : Addr) (cl : List (Str × Addr)) (fp : List Addr), QTs (X.blk s H scope (compEnvC scope cl C X.env) fp) tb WF ifs cond)
    (he : ∀ (s : Shared) (H : Hp) (C : Addr) (cl : List (Str × Addr)) (fp : List Addr), QE (X.blk s H scope (compEnvC scope cl C X.env) fp) tb WF elt ef)
    (hsub : subAll is (own.map (·.2)) = true := by rfl) (hs : ∀ x, foldedSetIterable iter X.env x = pure x := by intro _; rfl) :
    QO X tb W (.ListComp elt [⟨tg, iter, ifs, 0⟩] scope pos) (eComp itf (own.map (·.2)) tgt cond ef) :=
  ⟨_, pe_lc (own := own) hc hN hi.pi (blkOk_by hb) (fun s H C cl fp => (hg s H C cl fp).pg) (fun s H C cl fp => (ht s H C cl fp).pts) (fun s H C cl fp => (he s H C cl fp).pe) hs,
    imp_lc rfl (hg {} (fun _ => none) 0 [] []).st (subAll_of hsub)⟩
end
end MM

namespace MM
open PySem PySem.Spec L2

section
variable {X : Cx} {tb : Tb} {W : WX} {pos : Pos}
theorem xps {p : Pg} {g : Gh} {σ : St} {env : Env} {H : Hp} (E : ER p g σ env H) : ∀ x, XPs p g σ env H W x → XP p g σ H W x := fun x h cls dx H' s r => h cls dx σ env H' (E.step s) (s.s E) r
theorem xps_step {p : Pg} {g : Gh} {σ σ1 : St} {env env1 : Env} {H H1 : Hp} (s : SStep g σ env H σ1 env1 H1) : ∀ x, XPs p g σ env H W x → XPs p g σ1 env1 H1 W x := fun x h cls dx σ' env' H' E' s' r => h cls dx σ' env' H' E' (s.trans s') r
theorem flp_step {p : Pg} {g : Gh} {σ σ1 : St} {env env1 : Env} {H H1 : Hp} {Dn : Ends} (s : SStep g σ env H σ1 env1 H1) : ∀ f, FlP p g σ env H Dn f → FlP p g σ1 env1 H1 Dn f := fun f h => by
  cases f with
  | nx e' => exact fun σ' H' E' s' => h σ' H' E' (s.trans s')
  | bk e' => exact fun σ' H' E' s' => h σ' H' E' (s.trans s')
  | ct e' => exact fun σ' H' E' s' => h σ' H' E' (s.trans s')
  | rt d => exact fun v σ' e' H' E' s' r => h v σ' e' H' E' (s.trans s') r

/-! ### simple statements -/
def sNx : Env → T Fl := fun env => .ret (.nx env)
def sBk : Env → T Fl := fun env => .ret (.bk env)
def sCt : Env → T Fl := fun env => .ret (.ct env)
def sDrop (f : Env → T D) : Env → T Fl := fun env => (f env).bind fun _ => .ret (.nx env)
def sRet (f : Env → T D) : Env → T Fl := fun env => (f env).bind fun d => .ret (.rt d)
def sSet (i : Nat) (f : Env → T D) : Env → T Fl := fun env => (f env).bind fun d => if i < env.length then .ret (.nx (env.set i (.frz d))) else .bad
def sOwn (i : Nat) (f : Env → T D) : Env → T Fl := fun env => (f env).bind fun d => if i < env.length then .ret (.nx (env.set i (.own d))) else .bad
def sIf (c : Env → T Bool) (a b : Env → T Fl) : Env → T Fl := fun env => (c env).bind fun k => if k then a env else b env
def sSeq (a b : Env → T Fl) : Env → T Fl := fun env => (a env).bind fun
  | .nx e => b e
  | f => .ret f
theorem qs_pass : QS X tb W (.Pass pos) sNx := ⟨_, ps_pass, fun g σ env H Dn E hw => hw σ H E SStep.refl⟩
theorem qs_break : QS X tb W (.Break pos) sBk := ⟨_, ps_break, fun g σ env H Dn E hw => hw σ H E SStep.refl⟩
theorem qs_cont : QS X tb W (.Continue pos) sCt := ⟨_, ps_continue, fun g σ env H Dn E hw => hw σ H E SStep.refl⟩
theorem qs_doc {x j p} : QS X tb W (.Expr (.Constant (.str x) j p) pos) sNx := ⟨_, ps_doc, fun g σ env H Dn E hw => hw σ H E SStep.refl⟩
theorem qs_expr {e : Expr} {f : Env → T D} (h : QE X tb W e f) (hs : swapsWith e none pos.line X.env = pure false := by rfl) : QS X tb W (.Expr e pos) (sDrop f) := by
  obtain ⟨t, h1, h2⟩ := h.ex
  refine ⟨_, ps_expr h1 hs, fun g σ env H Dn E hw => ?_⟩
  unfold sDrop at hw
  rw [T.wp_bind] at hw
  exact h2 g σ env H _ E (T.wp_mono (fun d q v H' s r => q σ H' (E.step s) (s.s E)) (xps E) hw)
theorem qs_ret {e : Expr} {f : Env → T D} (h : QE X tb W e f) : QS X tb W (.Return (some e) pos) (sRet f) := by
  obtain ⟨t, h1, h2⟩ := h.ex
  refine ⟨_, ps_ret h1, fun g σ env H Dn E hw => ?_⟩
  unfold sRet at hw
  rw [T.wp_bind] at hw
  exact h2 g σ env H _ E (T.wp_mono (fun d q v H' s r => q v σ env H' (E.step s) (s.s E) (r.mv (Mv.sub fun a z => .inl z))) (xps E) hw)
theorem qs_retN : QS X tb W (.Return none pos) (sRet (eC .non)) := ⟨_, ps_retN, fun g σ env H Dn E hw => hw .non σ env H E SStep.refl (by simp [Rep])⟩
theorem qs_set {i : Nat} {x : Str} {e : Expr} {pos' : Pos} {f : Env → T D} (hN : X.N.Nodup) (h : QE X tb W e f) (hi : X.N[i]? = some x := by rfl) (hx : Loc X.env.scope x := by first | exact Or.inl rfl | exact Or.inr rfl) (hs : swapsWith e (some (.Name x pos')) pos.line X.env = pure false := by rfl) (hf : X.fn x = true ∨ X.env.scope.names.lookup x = some .local := by first | exact .inl rfl | exact .inr rfl | assumption) :
    QS X tb W (.Assign [.Name x pos'] e pos) (sSet i f) := by
  obtain ⟨t, h1, h2⟩ := h.ex
  refine ⟨_, ps_set hN hi hx h1 hs hf, fun g σ env H Dn E hw => ?_⟩
  unfold sSet at hw
  rw [T.wp_bind] at hw
  refine h2 g σ env H _ E (T.wp_mono (fun d q v H' s r => ?_) (xps E) hw)
  split at q
  · rename_i hl
    exact q _ H' ((E.step s).setF hl r) ((s.s E).trans SStep.setF)
  · exact q.elim
theorem set_own_step {p : Pg} {g : Gh} {σ : St} {env : Env} {H H1 : Hp} {a : Addr} {i : Nat} {d : D} (E : ER p g σ env H) (s : Step p g.C H H1) (ha : ¬ Ob H a) : SStep g σ env H (σ.set i (some (.ref a))) (env.set i (.own d)) H1 := by
  have m := s.s E
  exact ⟨m.pers, m.tup, m.frz, m.dom, fun b n hb z => by
    rcases Nn.fl.mp (Nn.set_own z) with z | z
    · exact n z
    · subst z; exact ha hb⟩
/-- a fresh thing stored: the slot owns it -/
theorem qs_own {i : Nat} {x : Str} {e : Expr} {pos' : Pos} {f : Env → T D} (hN : X.N.Nodup) (h : QO X tb W e f) (hi : X.N[i]? = some x := by rfl) (hx : Loc X.env.scope x := by first | exact Or.inl rfl | exact Or.inr rfl) (hs : swapsWith e (some (.Name x pos')) pos.line X.env = pure false := by rfl) (hf : X.fn x = true ∨ X.env.scope.names.lookup x = some .local := by first | exact .inl rfl | exact .inr rfl | assumption) :
    QS X tb W (.Assign [.Name x pos'] e pos) (sOwn i f) := by
  obtain ⟨t, h1, h2⟩ := h.ex
  refine ⟨_, ps_set hN hi hx h1 hs hf, fun g σ env H Dn E hw => ?_⟩
  unfold sOwn at hw
  rw [T.wp_bind] at hw
  refine h2 g σ env H _ E (T.wp_mono (fun d q a H' s E' n0 h0 hf r => ?_) (xps E) hw)
  split at q
  · rename_i hl
    exact q _ H' (E'.setO hl n0 h0 r) (set_own_step E s hf)
  · exact q.elim
/-- y = [..] on one line -/
theorem qs_setLc {i : Nat} {y : Str} {py : Pos} {elt tg iter : Expr} {ifs : List Expr} {scope : Scope} {pos spos : Pos} {itf : Env → T (List D)} {is : List Nat} {tgt : D → Env → Option Env} {cond : Env → T Bool} {ef : Env → T D} (own : List (Str × Nat))
    (hc : X.calm = true) (hN : X.N.Nodup) (hi : QI X tb W tg iter itf) (hb : blkC X.N X.env.scope scope own = true)
    (hg : ∀ (s : Shared) (H : Hp) (C : Addr) (cl : List (Str × Addr)) (fp : List Addr), QG (X.blk s H scope (compEnvC scope cl C X.env) fp) tg is tgt)
    (ht : ∀ (s : Shared) (H : Hp) (C : Addr) (cl : List (Str × Addr)) (fp : List Addr), QTs (X.blk s H scope (compEnvC scope cl C X.env) fp) tb WF ifs cond)
    (he : ∀ (s : Shared) (H : Hp) (C : Addr) (cl : List (Str × Addr)) (fp : List Addr), QE (X.blk s H scope (compEnvC scope cl C X.env) fp) tb WF elt ef)
    (hsw : swapsWith (.ListComp elt [⟨tg, iter, ifs, 0⟩] scope pos) (some (.Name y py)) spos.line X.env = pure true)
    (hy : X.N[i]? = some y := by rfl) (hyl : X.env.scope.names.lookup y = some .local := by rfl)
    (hsub : subAll is (own.map (·.2)) = true := by rfl) (hs : ∀ x, foldedSetIterable iter X.env x = pure x := by intro _; rfl) :
    QS X tb W (.Assign [.Name y py] (.ListComp elt [⟨tg, iter, ifs, 0⟩] scope pos) spos) (sOwn i (eComp itf (own.map (·.2)) tgt cond ef)) := by
  refine ⟨_, ps_setLc (own := own) (wi := rdI (pgOf X tb) W itf) (g := rdG X.K is tgt) (tt := rdT (pgOf X tb) WF cond) (te := rdE (pgOf X tb) WF ef) hc hN hy hyl hsw hi.pi (blkOk_by hb) (fun s H C cl fp => (hg s H C cl fp).pg) (fun s H C cl fp => (ht s H C cl fp).pts) (fun s H C cl fp => (he s H C cl fp).pe) hs, fun g σ env H Dn E hw => ?_⟩
  have imp := imp_lc (K := X.K) (p := pgOf X tb) (W := W) (itf := itf) (cond := cond) (elt := ef) rfl (hg {} (fun _ => none) 0 [] []).st (subAll_of hsub)
  unfold sOwn at hw
  rw [T.wp_bind] at hw
  refine imp g σ env H _ E (T.wp_mono (fun d q a H' s E' n0 h0 hf r => ?_) (xps E) hw)
  split at q
  · rename_i hl
    exact q _ H' (E'.setO hl n0 h0 r) (set_own_step E s hf)
  · exact q.elim
/-- targets of any form -/
def sAsg (tgt : D → Env → Option Env) (f : Env → T D) : Env → T Fl := fun env => (f env).bind fun d => (ofO (tgt d env)).bind fun e => .ret (.nx e)
theorem qs_asg {tg e : Expr} {is : List Nat} {tgt : D → Env → Option Env} {f : Env → T D} (h : QE X tb W e f) (hg : QG X tg is tgt) (hs : swapsWithSole [tg] e pos.line X.env = pure false := by rfl) (hw : swappedStores [tg] e X.env = pure none := by rfl) (ha : (assignEach [tg] X.env).map (·.2) = [assign tg X.env] := by rfl) :
    QS X tb W (.Assign [tg] e pos) (sAsg tgt f) := by
  obtain ⟨t, h1, h2⟩ := h.ex
  obtain ⟨gt, g1, g2⟩ := hg.ex
  refine ⟨_, ps_asg h1 g1 hs hw ha, fun g σ env H Dn E hw => ?_⟩
  unfold sAsg at hw
  rw [T.wp_bind] at hw
  refine h2 g σ env H _ E (T.wp_mono (fun d q v H' s r => ?_) (xps E) hw)
  cases ht : tgt d env with
  | none => rw [ht] at q; exact q.elim
  | some env' =>
    rw [ht] at q
    exact g2 (pgOf X tb) g σ env H' _ d v env' rfl (E.step s) r ht fun σ' E' S' _ => q σ' H' E' ((s.s E).trans S')
/-- a, b = x, y by plain local names -/
def sPar (i j : Nat) (fa : Env → T (List D)) : Env → T Fl := fun env => (fa env).bind fun
  | [x, y] => if i < env.length && j < env.length then .ret (.nx ((env.set i (.frz x)).set j (.frz y))) else .bad
  | _ => .bad
theorem qs_par {i j : Nat} {x y : Str} {a b : Expr} {px py pt : Pos} {kt k2 pt2} {fa : Env → T (List D)} (hc : X.calm = true) (hN : X.N.Nodup) (ha : QA X tb W [a, b] fa) (hi : X.N[i]? = some x := by rfl) (hj : X.N[j]? = some y := by rfl) (hij : i ≠ j := by decide)
    (hx : X.env.scope.names.lookup x = some .local := by rfl) (hy : X.env.scope.names.lookup y = some .local := by rfl)
    (hw : swappedStores [.Tuple [.Name x px, .Name y py] kt pt] (.Tuple [a, b] k2 pt2) X.env = pure (some [x, y]) := by rfl)
    (hs : swapsWithSole [.Tuple [.Name x px, .Name y py] kt pt] (.Tuple [a, b] k2 pt2) pos.line X.env = pure false := by rfl) :
    QS X tb W (.Assign [.Tuple [.Name x px, .Name y py] kt pt] (.Tuple [a, b] k2 pt2) pos) (sPar i j fa) := by
  obtain ⟨t, h1, h2⟩ := ha.ex
  refine ⟨_, ps_par hc hN hi hj hij hx hy h1 hw hs, fun g σ env H Dn E hw => ?_⟩
  unfold sPar at hw
  rw [T.wp_bind] at hw
  refine h2 g σ env H _ E (T.wp_mono (fun ds q vs H' s r => ?_) (xps E) hw)
  split at q
  · rename_i x y
    split at q
    · rename_i hl
      simp only [Bool.and_eq_true, decide_eq_true_eq] at hl
      obtain ⟨v, w, rfl, rv, rw'⟩ := ra2 r
      have E1 := (E.step s).setF hl.1 rv
      have m1 : SStep g σ env H' (σ.set i (some v)) (env.set i (.frz x)) H' := SStep.setF
      have E2 := E1.setF (i := j) (by simpa using hl.2) (rw'.mv m1.mv)
      exact ⟨v, w, rfl, q _ H' E2 (((s.s E).trans m1).trans SStep.setF)⟩
    · exact q.elim
  · exact q.elim
theorem qs_if {c : Expr} {a b : List Stmt} {fc : Env → T Bool} {fa fb : Env → T Fl} (hc : QT X tb W c fc) (ha : QB X tb W a fa) (hb : QB X tb W b fb) : QS X tb W (.If c a b pos) (sIf fc fa fb) := by
  obtain ⟨t, h1, h2⟩ := hc.ex
  obtain ⟨ta, a1, a2⟩ := ha.ex
  obtain ⟨tb', b1, b2⟩ := hb.ex
  refine ⟨_, ps_if h1 a1 b1, fun g σ env H Dn E hw => ?_⟩
  unfold sIf at hw
  rw [T.wp_bind] at hw
  refine h2 g σ env H _ E (T.wp_mono (fun k q H1 s1 => ?_) (xps E) hw)
  have st := s1.s E
  cases k with
  | true =>
    rw [if_pos rfl] at q
    exact iteT (a2 g σ env H1 Dn (E.step s1) (T.wp_mono (flp_step st) (xps_step st) q))
  | false =>
    rw [if_neg (by simp)] at q
    exact iteF (b2 g σ env H1 Dn (E.step s1) (T.wp_mono (flp_step st) (xps_step st) q))
/-! ### blocks -/
theorem qb_nil : QB X tb W [] sNx := ⟨_, pss_nil, fun g σ env H Dn E hw => hw σ H E SStep.refl⟩
theorem qb_cons {st : Stmt} {rest : List Stmt} {f h : Env → T Fl} (h1 : QS X tb W st f) (h2 : QB X tb W rest h) : QB X tb W (st :: rest) (sSeq f h) := by
  obtain ⟨t, p1, i1⟩ := h1.ex
  obtain ⟨u, p2, i2⟩ := h2.ex
  refine ⟨_, pss_cons p1 p2, fun g σ env H Dn E hw => ?_⟩
  unfold sSeq at hw
  rw [T.wp_bind] at hw
  refine i1 g σ env H _ E (T.wp_mono (fun fl q => ?_) (fun _ z => z) hw)
  cases fl with
  | nx e' => exact fun σ' H' E' s' => i2 g σ' e' H' Dn E' (T.wp_mono (flp_step s') (xps_step s') q)
  | bk e' => exact q
  | ct e' => exact q
  | rt d => exact q
theorem qb_one {st : Stmt} {f : Env → T Fl} (h1 : QS X tb W st f) : QB X tb W [st] f := by
  obtain ⟨t, p1, i1⟩ := h1.ex
  exact ⟨_, pss_one p1, fun g σ env H Dn E hw => i1 g σ env H _ E hw⟩
/-- what a slot owns is let go, ahead of a block -/
def sFrz (i : Nat) (f : Env → T Fl) : Env → T Fl := fun env => match env[i]? with
  | some (.own d) => f (env.set i (.frz d))
  | _ => f env
theorem qb_frz (i : Nat) {sts : List Stmt} {f : Env → T Fl} (h : QB X tb W sts f) : QB X tb W sts (sFrz i f) := by
  obtain ⟨t, p1, i1⟩ := h.ex
  refine ⟨t, p1, fun g σ env H Dn E hw => ?_⟩
  unfold sFrz at hw
  split at hw
  · rename_i d hd
    have E1 := E.freeze hd
    have st : SStep g σ env H σ (env.set i (.frz d)) H := SStep.sub fun b _ z => by
      rcases z with z | ⟨k, z⟩
      · exact .inl z
      · refine .inr ⟨k, ?_⟩
        obtain ⟨⟨e, h1⟩, h2⟩ := z
        by_cases hk : k = i
        · subst hk; cases set_self_eq h1
        · rw [List.getElem?_set_ne (fun q => hk q.symm)] at h1
          exact ⟨⟨e, h1⟩, h2⟩
    exact i1 g σ _ H Dn E1 (T.wp_mono (flp_step st) (xps_step st) hw)
  · exact i1 g σ env H Dn E hw

/-! ### loops -/
def forL (tgt : D → Env → Option Env) (body : Env → T Fl) : List D → Env → T Fl
  | [], env => .ret (.nx env)
  | d :: ds, env => (ofO (tgt d env)).bind fun e => (body e).bind fun
    | .nx e' => forL tgt body ds e'
    | .ct e' => forL tgt body ds e'
    | .bk e' => .ret (.nx e')
    | .rt v => .ret (.rt v)
def sFor (it : Env → T (List D)) (tgt : D → Env → Option Env) (body : Env → T Fl) : Env → T Fl := fun env => (it env).bind fun ds => forL tgt body ds env
theorem qs_for {tg iter : Expr} {body : List Stmt} {itf : Env → T (List D)} {is : List Nat} {tgt : D → Env → Option Env} {f : Env → T Fl} (hp : PassesOwn (model X.prog X.w) X.A X.env X.xe) (hc : X.calm = true) (hi : QI X tb W tg iter itf) (hg : QG X tg is tgt) (hb : QB X tb W body f)
    (hs : ∀ x, foldedSetIterable iter X.env x = pure x := by intro _; rfl) : QS X tb W (.For tg iter body [] pos) (sFor itf tgt f) := by
  obtain ⟨wi, w1, w2⟩ := hi.ex
  obtain ⟨gt, g1, g2⟩ := hg.ex
  obtain ⟨t, b1, b2⟩ := hb.ex
  refine ⟨_, ps_for hp hc w1 g1 b1 hs, fun g σ env H Dn E hw => ?_⟩
  unfold sFor at hw
  rw [T.wp_bind] at hw
  refine w2 g σ env H _ E (T.wp_mono (fun ds q J H1 s1 hds hJ => ?_) (xps E) hw)
  have E1 := E.step s1
  have S1 := s1.s E
  refine ⟨fun i m σ' H' => i + m = ds.length ∧ ∃ env', ER (pgOf X tb) g σ' env' H' ∧ SStep g σ env H1 σ' env' H' ∧ (forL tgt f (ds.drop i) env').wp (FlP (pgOf X tb) g σ env H Dn) (XPs (pgOf X tb) g σ env H W), ⟨ds.length, by omega, env, E1, SStep.refl, by rw [List.drop_zero]; exact q⟩, ?_⟩
  rintro i m σ2 H2 ⟨him, env2, E2, S12, hq⟩
  obtain ⟨hgo, hstop⟩ := hJ g σ2 env2 H2 E2 rfl S12.mv i
  by_cases hi : i < ds.length
  rotate_left
  · refine .inl ⟨hstop (by omega), ?_⟩
    rw [List.drop_of_length_le (by omega)] at hq
    exact hq σ2 H2 E2 (S1.trans S12)
  have hdi : ds[i]? = some ds[i] := List.getElem?_eq_getElem hi
  obtain ⟨hgo1, hy⟩ := hgo _ hdi
  refine .inr ⟨hgo1, fun σ' H' => ∃ m', m' < m ∧ _, fun σ' H' h => h, fun x H3 hyl => ?_⟩
  obtain ⟨s23, rx⟩ := hy x H3 hyl
  have E3 := E2.step s23
  rw [List.drop_eq_getElem_cons hi] at hq
  simp only [forL] at hq
  rw [T.wp_bind] at hq
  cases ht : tgt ds[i] env2 with
  | none => rw [ht] at hq; exact hq.elim
  | some env' =>
    rw [ht] at hq
    simp only [ofO, T.wp] at hq
    refine g2 (pgOf X tb) g σ2 env2 H3 _ ds[i] x env' rfl E3 rx ht fun σ' E' S' _ => ?_
    have S13 : SStep g σ env H1 σ' env' H3 := (S12.trans (s23.s E2)).trans S'
    have S03 := S1.trans S13
    rw [T.wp_bind] at hq
    refine b2 g σ' env' H3 _ E' (T.wp_mono (fun fl hq => ?_) (xps_step S03) hq)
    cases fl with
    | nx e' => exact fun σ5 H5 E5 S5 => ⟨m - 1, by omega, by omega, e', E5, S13.trans S5, hq⟩
    | ct e' => exact fun σ5 H5 E5 S5 => ⟨m - 1, by omega, by omega, e', E5, S13.trans S5, hq⟩
    | bk e' => exact fun σ5 H5 E5 S5 => hq σ5 H5 E5 (S03.trans S5)
    | rt v => exact fun vv σ5 e5 H5 E5 S5 r => hq vv σ5 e5 H5 E5 (S03.trans S5) r
/-- a while, of at most n turns -/
def whileN (c : Env → T Bool) (body : Env → T Fl) : Nat → Env → T Fl
  | 0, _ => .bad
  | n + 1, env => (c env).bind fun b => if b then (body env).bind fun
      | .nx e' => whileN c body n e'
      | .ct e' => whileN c body n e'
      | .bk e' => .ret (.nx e')
      | .rt v => .ret (.rt v)
    else .ret (.nx env)
def sWhile (n : Env → Nat) (c : Env → T Bool) (body : Env → T Fl) : Env → T Fl := fun env => whileN c body (n env) env
theorem qs_while {c : Expr} {body : List Stmt} {fc : Env → T Bool} {f : Env → T Fl} (n : Env → Nat) (hp : PassesOwn (model X.prog X.w) X.A X.env X.xe) (hc : QT X tb W c fc) (hb : QB X tb W body f) : QS X tb W (.While c body [] pos) (sWhile n fc f) := by
  obtain ⟨tc, c1, c2⟩ := hc.ex
  obtain ⟨t, b1, b2⟩ := hb.ex
  refine ⟨_, ps_while hp c1 b1, fun g σ env H Dn E hw => ?_⟩
  unfold sWhile at hw
  refine ⟨fun m σ' H' => ∃ env', ER (pgOf X tb) g σ' env' H' ∧ SStep g σ env H σ' env' H' ∧ (whileN fc f m env').wp (FlP (pgOf X tb) g σ env H Dn) (XPs (pgOf X tb) g σ env H W), ⟨n env, env, E, SStep.refl, hw⟩, ?_⟩
  rintro m σ2 H2 ⟨env2, E2, S2, hq⟩
  cases m with
  | zero => exact hq.elim
  | succ m =>
    simp only [whileN] at hq
    rw [T.wp_bind] at hq
    refine c2 g σ2 env2 H2 _ E2 (T.wp_mono (fun k hq H3 s3 => ?_) (fun x h => xps E2 x (xps_step S2 x h)) hq)
    have E3 := E2.step s3
    have S3 := S2.trans (s3.s E2)
    cases k with
    | false =>
      rw [if_neg (by simp)] at hq
      exact iteF (hq σ2 H3 E3 S3)
    | true =>
      rw [if_pos rfl] at hq
      refine iteT ⟨fun σ' H' => ∃ m', m' < m + 1 ∧ _, fun σ' H' h => h, ?_⟩
      rw [T.wp_bind] at hq
      refine b2 g σ2 env2 H3 _ E3 (T.wp_mono (fun fl hq => ?_) (xps_step S3) hq)
      cases fl with
      | nx e' => exact fun σ5 H5 E5 S5 => ⟨m, by omega, e', E5, S3.trans S5, hq⟩
      | ct e' => exact fun σ5 H5 E5 S5 => ⟨m, by omega, e', E5, S3.trans S5, hq⟩
      | bk e' => exact fun σ5 H5 E5 S5 => hq σ5 H5 E5 (S3.trans S5)
      | rt v => exact fun vv σ5 e5 H5 E5 S5 r => hq vv σ5 e5 H5 E5 (S3.trans S5) r
end
end MM

namespace MM
open PySem PySem.Spec L2

/-- what a def promises: it computes m -/
def SpM (p : Pg) (n : Nat) (m : List D → T D) : Sp := fun vs H Q E => ∃ (N0 C : Addr → Prop) (ds : List D), vs.length = n ∧ (∀ a, C a → N0 a) ∧ (∀ a, C a → CupAt H a) ∧ (∀ a, N0 a → Ob H a) ∧ LamX.Tabs p.tb.l H ∧ RepL p C H N0 ds vs ∧
  (m ds).wp (fun d => ∀ v H', Step p C H H' → Rep p C H' N0 d v → Q v H') (fun x => ∀ cls dx H', Step p C H H' → ExR p C H' x cls dx → E cls dx H')
def eFn (n : Nat) (m : List D → T D) (fa : Env → T (List D)) : Env → T D := fun env => (fa env).bind fun xs => if lenL xs = n then m xs else .bad
section
variable {X : Cx} {tb : Tb} {W : WX} {pos : Pos}
theorem qe_call {k n : Nat} {f : Addr} {fd : FuncData} {ps : List Str} {m : List D → T D} {x : Str} {p : Pos} {e : Expr} {es : List Expr} {fa : Env → T (List D)} (F : FnOk X.prog X.w X.K X.mg X.base (L2.CX X.prog X.w) k f fd ps (SpM (pgOf X tb) n m)) (hr : Room k X.A) (tk : Takes X W)
    (hm : X.mg x = some (.ref f)) (hk : PySem.W.keepIn X.K (.ref f) = true) (hb : Binds X.K fd ps []) (ha : QA X tb W (e :: es) fa) (hg : Gl X x := by rfl) (hdb : (x == ("__debug__" : Str)) = false := by decide) (he : starEach (e :: es) X.env = (false, eval e X.env) :: starEach es X.env := by rfl)
    (hpl : (backTo pos (starEach es X.env)).any (·.1) = false := by rfl) : QE X tb W (.Call (.Name x p) (e :: es) [] pos) (eFn n m fa) := by
  obtain ⟨t, h1, h2⟩ := ha.ex
  refine ⟨_, pe_callS F hr hg hm hk hb (fun σ => passAt tk σ) h1 hdb he hpl, fun g σ env H Q E hw => ?_⟩
  unfold eFn at hw
  rw [T.wp_bind] at hw
  refine h2 g σ env H _ E (T.wp_mono (fun xs q vs H1 s1 r1 => ?_) (fun _ z => z) hw)
  split at q
  · rename_i hl
    have E1 := E.step s1
    rw [lenL_eq] at hl
    exact ⟨Nn g σ env, g.C, xs, by rw [r1.length, hl], E1.nC, E1.cup, fun a z => E1.there z, E1.tabs, r1, T.wp_mono (fun d q v H' s r => q v H' (s1.trans s) r) (fun x h cls dx H' s r => h cls dx H' (s1.trans s) r) q⟩
  · exact q.elim
theorem pe_call0S {CX : CXT} {k : Nat} {f : Addr} {fd : FuncData} {ps : List Str} {sp : Sp} {E : St → XK} {x : Str} {p : Pos} (F : FnOk X.prog X.w X.K X.mg X.base CX k f fd ps sp) (hr : Room k X.A) (hg : Gl X x) (hm : X.mg x = some (.ref f)) (hk : PySem.W.keepIn X.K (.ref f) = true) (hb : Binds X.K fd ps []) (hx : ∀ σ, PassesAt CX X σ (E σ))
    (hdb : (x == ("__debug__" : Str)) = false := by decide) : PE X (.Call (.Name x p) [] [] pos) (tCallS sp E tNil) := by
  refine ⟨fun pins s σ H Q I h => ?_⟩
  refine wpAny_Call_Name_kw (ld_glob I hg hm ?_ hdb)
  exact PySem.W.callWith_K0 I.kIn hk (run_fnS (us := []) F hr hb (hx σ) I .nil h)
theorem qe_call0 {k : Nat} {f : Addr} {fd : FuncData} {ps : List Str} {m : List D → T D} {x : Str} {p : Pos} (F : FnOk X.prog X.w X.K X.mg X.base (L2.CX X.prog X.w) k f fd ps (SpM (pgOf X tb) 0 m)) (hr : Room k X.A) (tk : Takes X W)
    (hm : X.mg x = some (.ref f)) (hk : PySem.W.keepIn X.K (.ref f) = true) (hb : Binds X.K fd ps []) (hg : Gl X x := by rfl) (hdb : (x == ("__debug__" : Str)) = false := by decide) : QE X tb W (.Call (.Name x p) [] [] pos) (eFn 0 m aNil) := by
  refine ⟨_, pe_call0S F hr hg hm hk hb (fun σ => passAt tk σ) hdb, fun g σ env H Q E hw => ?_⟩
  exact ⟨Nn g σ env, g.C, [], rfl, E.nC, E.cup, fun a z => E.there z, E.tabs, .nil, hw⟩
end
def startE (n : Nat) (ds : List D) : Env := ds.map .frz ++ List.replicate (n - ds.length) .no
def runB (n : Nat) (gS : Env → T Fl) : List D → T D := fun ds => (gS (startE n ds)).bind fun
  | .nx _ => .ret .non
  | .rt d => .ret d
  | _ => .bad
theorem startE_get {n : Nat} {ds : List D} {i : Nat} {s : Sl} (h : (startE n ds)[i]? = some s) : (∃ d, ds[i]? = some d ∧ s = .frz d) ∨ s = .no := by
  unfold startE at h
  by_cases hi : i < ds.length
  · rw [List.getElem?_append_left (by simpa using hi), List.getElem?_map, List.getElem?_eq_getElem hi] at h
    cases h
    exact .inl ⟨_, List.getElem?_eq_getElem hi, rfl⟩
  · rw [List.getElem?_append_right (by simpa using hi), List.getElem?_replicate] at h
    split at h <;> cases h
    exact .inr rfl
theorem er_start {p : Pg} {N : List Str} {N0 C : Addr → Prop} {ds : List D} {vs : List V} {H : Hp} (hC : ∀ a, C a → N0 a) (hl : vs.length ≤ N.length) (hcup : ∀ a, C a → CupAt H a) (hn0 : ∀ a, N0 a → Ob H a) (tabs : LamX.Tabs p.tb.l H) (hth : p.tb.th = none) (r : RepL p C H N0 ds vs) :
    ER p ⟨H, N0, C, hC⟩ (L2.start N vs) (startE N.length ds) H ∧ Nn ⟨H, N0, C, hC⟩ (L2.start N vs) (startE N.length ds) = N0 := by
  have noown : ∀ i a, ¬ OwnAt (L2.start N vs) (startE N.length ds) i a := fun i a ⟨⟨d, h⟩, _⟩ => by
    rcases startE_get h with ⟨_, _, z⟩ | z <;> cases z
  have hN : Nn ⟨H, N0, C, hC⟩ (L2.start N vs) (startE N.length ds) = N0 := by
    funext a
    apply propext
    constructor
    · rintro (h | ⟨i, h⟩)
      · exact h
      · exact (noown i a h).elim
    · exact fun h => .inl h
  refine ⟨⟨?_, fun b o h _ _ => h, fun b h => h, hcup, tabs, hn0, fun i s hs => ?_, fun i j a h => (noown i a h).elim, fun i a h => (noown i a h).elim, fun t z => by rw [hth] at z; cases z⟩, hN⟩
  · unfold L2.start startE
    simp [r.length]
  · rcases startE_get hs with ⟨d, hd, rfl⟩ | rfl
    · obtain ⟨v, hv, rv⟩ := r.get hd
      refine ⟨v, ?_, by rw [hN]; exact rv⟩
      unfold L2.start
      have hi : i < vs.length := (List.getElem?_eq_some_iff.mp hv).1
      rw [List.getElem?_append_left (by simpa using hi), List.getElem?_map, hv]
      rfl
    · trivial
theorem ER.out {p : Pg} {g : Gh} {σ : St} {env : Env} {H : Hp} (E : ER p g σ env H) : Step p g.C g.H0 H := ⟨E.keep, E.cup, E.tabs, E.dom⟩
section
variable {P : Program} {w : World} {K : PySem.W.Frag} {mg : Str → Option Value} {base : Heap} {tb : List (Addr × Str)}
theorem okM {x qual : Str} {st : Stmt} {f : Addr} {fd : FuncData} {N ps : List Str} {k n : Nat} {gS : Env → T Fl} (F : Fun K x qual st f fd) (S : FnScope N ps (defScope st)) (hn : ps.length = n)
    (hbody : ∀ (cdv : Value) (A : Around) (outer : List PySem.Env) (s : Shared) (H : Hp) (E : XK), Room k (A.deeper (PyProof.Rows.envOfC qual (defScope st) s.heap.objs.size f cdv)) →
      QB (cxOf (L2.CX P w) P w K mg base N qual (defScope st) f cdv A outer s H E) (tb0 tb) (fun cls d _ H' => E cls d H') (defBody st) gS) :
    FnOk P w K mg base (L2.CX P w) (k + 1) f fd ps (SpM ⟨K, mg, tb0 tb⟩ n (runB N.length gS)) := by
  refine F.okX S (fun vs H Q E h => ?_) (fun cdv A outer s H vs Q E hr h => ?_)
  · obtain ⟨_, _, _, hl, _⟩ := h
    rw [hl, hn]
  · obtain ⟨N0, C, ds, hl, hC, hcup, hn0, tabs, r, hw⟩ := h
    obtain ⟨t, p1, i1⟩ := (hbody cdv A outer s H E hr).ex
    refine ⟨t, p1, ?_⟩
    have hpl : ps.length ≤ N.length := by have := congrArg List.length S.pre; rw [List.length_take] at this; omega
    obtain ⟨E0, hN⟩ := er_start (p := ⟨K, mg, tb0 tb⟩) (N := N) hC (by rw [hl, ← hn]; exact hpl) hcup hn0 tabs rfl r
    unfold runB at hw
    rw [T.wp_bind] at hw
    refine i1 _ _ _ H _ E0 (T.wp_mono (fun fl q => ?_) (fun x q => ?_) hw)
    · cases fl with
      | nx e' => exact fun σ' H' E' _ => q .non H' E'.out (by simp [Rep])
      | bk e' => exact q.elim
      | ct e' => exact q.elim
      | rt d => exact fun v σ' e' H' E' _ r' => q v H' E'.out r'
    · exact fun cls dx σ' env' H' E' _ r' => q cls dx H' E'.out r'
/-- a def of which nothing is known -/
theorem ok_bad {f : Addr} {fd : FuncData} {ps : List Str} {k n : Nat} : FnOk P w K mg base (L2.CX P w) k f fd ps (SpM ⟨K, mg, tb0 tb⟩ n fun _ => .bad) :=
  ⟨fun vs H Q E h => by obtain ⟨_, _, _, _, _, _, _, _, _, z⟩ := h; exact z.elim, fun A outer s H args us vs Q E _ _ _ _ h => by obtain ⟨_, _, _, _, _, _, _, _, _, z⟩ := h; exact z.elim⟩
end

/-! ### constants of the top -/
def KR (p : Pg) (v : V) (d : D) : Prop := ∀ C H N, Rep p C H N d v
section
variable {X : Cx} {tb : Tb} {W : WX} {pos : Pos}
theorem qe_glob {x : Str} {v : V} {u : Value} {d : D} (hm : X.mg x = some u) (r : RelV v u) (h : KR (pgOf X tb) v d) (hg : Gl X x := by rfl) (hd : (x == ("__debug__" : Str)) = false := by decide) : QE X tb W (.Name x pos) (eC d) := qe_c (pe_glob hg hm r hd) h
theorem kr_int {p : Pg} {i : Int} : KR p (.int i) (.int i) := fun _ _ _ => repI
theorem kr_str {p : Pg} {x : Str} {s : List Nat} (h : (x.cps.toList == s && okS s) = true) : KR p (.str x) (.str s) := fun _ _ _ => by
  simp only [Bool.and_eq_true, beq_iff_eq] at h
  obtain ⟨h1, h2⟩ := h
  subst h1
  obtain ⟨a, b⟩ := okS_iff h2
  exact repStr a b
end
end MM

namespace MM
open PySem PySem.Spec L2

/-! ### defs by their names -/
def DefAt (K : PySem.W.Frag) (mg : Str → Option Value) (x : Str) (st : Stmt) (ps : List Str) : Prop :=
  ∃ f fd, Fun K x x st f fd ∧ mg x = some (.ref f) ∧ Binds K fd ps []
def OkF (P : Program) (w : World) (K : PySem.W.Frag) (mg : Str → Option Value) (base : Heap) (tb : List (Addr × Str)) (k n : Nat) (x : Str) (ps : List Str) (m : List D → T D) : Prop :=
  ∃ f fd, mg x = some (.ref f) ∧ PySem.W.keepIn K (.ref f) = true ∧ Binds K fd ps [] ∧ FnOk P w K mg base (L2.CX P w) k f fd ps (SpM ⟨K, mg, tb0 tb⟩ n m)
section
variable {P : Program} {w : World} {K : PySem.W.Frag} {mg : Str → Option Value} {base : Heap} {tb : List (Addr × Str)}
theorem DefAt.mk {x : Str} {st : Stmt} {ps : List Str} {h : Heap} {f : Addr} {oc : Value} {od an : Option Addr} {osl : Array (Option Value)} {kV doc pm cdv ct : Value} (X : K.In h) (G : h.Ns mainGlobals mg) (a : PySem.W.nsIn K mainGlobals x = some (some (.ref f)))
    (l : K.lookup f = some ⟨oc, od, .func (PySem.W.fnOf x x (defArgs st) (defBody st) (defScope st) .none kV doc pm an cdv ct), osl⟩) (c : PySem.W.codeIn K cdv x = true) (k : PySem.W.keepIn K (.ref f) = true)
    (b : ∀ (kV doc pm : Value) (an : Option Addr) (cdv ct : Value) (us : List Value), us.length = ps.length → bindArgs (PySem.W.fnOf x x (defArgs st) (defBody st) (defScope st) .none kV doc pm an cdv ct) ⟨us, []⟩ = pure (ps.zip us)) : DefAt K mg x st ps :=
  let F := fun_mk l c k
  ⟨f, _, F, PySem.W.mg_of X G a, F.binds b⟩
theorem OkF.mk {x : Str} {st : Stmt} {N ps : List Str} {k n : Nat} {gS : Env → T Fl} (F : DefAt K mg x st ps) (S : FnScope N ps (defScope st)) (hn : ps.length = n)
    (hbody : ∀ (f : Addr) (cdv : Value) (A : Around) (outer : List PySem.Env) (s : Shared) (H : Hp) (E : XK), Room k (A.deeper (PyProof.Rows.envOfC x (defScope st) s.heap.objs.size f cdv)) →
      QB (cxOf (L2.CX P w) P w K mg base N x (defScope st) f cdv A outer s H E) (tb0 tb) (fun cls d _ H' => E cls d H') (defBody st) gS) :
    OkF P w K mg base tb (k + 1) n x ps (runB N.length gS) := by
  obtain ⟨f, fd, F, g, b⟩ := F
  exact ⟨f, fd, g, F.kp, b, okM F S hn (hbody f)⟩
theorem OkF.up {x : Str} {ps : List Str} {j k n : Nat} {m : List D → T D} (F : OkF P w K mg base tb j n x ps m) (h : j ≤ k) : OkF P w K mg base tb k n x ps m := by
  obtain ⟨f, fd, g, kp, b, F⟩ := F
  exact ⟨f, fd, g, kp, b, F.mono h⟩
theorem OkF.bad {x : Str} {st : Stmt} {ps : List Str} {k n : Nat} (F : DefAt K mg x st ps) : OkF P w K mg base tb k n x ps (fun _ => .bad) := by
  obtain ⟨f, fd, F, g, b⟩ := F
  exact ⟨f, fd, g, F.kp, b, ok_bad⟩
end
section
variable {X : Cx} {tb : List (Addr × Str)} {W : WX} {pos : Pos}
theorem qe_callF {k n : Nat} {ps : List Str} {m : List D → T D} {x : Str} {p : Pos} {e : Expr} {es : List Expr} {fa : Env → T (List D)} (F : OkF X.prog X.w X.K X.mg X.base tb k n x ps m) (hr : Room k X.A) (tk : Takes X W)
    (ha : QA X (tb0 tb) W (e :: es) fa) (hg : Gl X x := by rfl) (hdb : (x == ("__debug__" : Str)) = false := by decide) (he : starEach (e :: es) X.env = (false, eval e X.env) :: starEach es X.env := by rfl)
    (hpl : (backTo pos (starEach es X.env)).any (·.1) = false := by rfl) : QE X (tb0 tb) W (.Call (.Name x p) (e :: es) [] pos) (eFn n m fa) := by
  obtain ⟨f, fd, g, kp, b, F⟩ := F
  exact qe_call F hr tk g kp b ha hg hdb he hpl
theorem qe_callF0 {k : Nat} {ps : List Str} {m : List D → T D} {x : Str} {p : Pos} (F : OkF X.prog X.w X.K X.mg X.base tb k 0 x ps m) (hr : Room k X.A) (tk : Takes X W) (hg : Gl X x := by rfl) (hdb : (x == ("__debug__" : Str)) = false := by decide) : QE X (tb0 tb) W (.Call (.Name x p) [] [] pos) (eFn 0 m aNil) := by
  obtain ⟨f, fd, g, kp, b, F⟩ := F
  exact qe_call0 F hr tk g kp b hg hdb
end
theorem u65 {A : Around} {k : Nat} (hr : Room k A) : A.units + 65 < cLine := by have := hr.un; omega

/-! ### draws -/
def rollM : List D → T D
  | [.cup, .int n] => if 0 < n ∧ n < 1073741824 then .draw n.toNat fun i => .ret (.int i) else .bad
  | _ => .bad
theorem cup_step {p : Pg} {C : Addr → Prop} {H : Hp} {a : Addr} {c d : Int} (hc : ∀ a, C a → CupAt H a) (t : LamX.Tabs p.tb.l H) (ca : C a) (h0 : 0 ≤ c) (h1 : 0 ≤ d) (h2 : d < 2147483543) : Step p C H (upd H a (.lst [.int c, .int d])) := by
  obtain ⟨x, y, e, _⟩ := hc a ca
  have oth : ∀ b u, H b = some u → (∀ vs, u ≠ .lst vs) → upd H a (.lst [.int c, .int d]) b = some u := fun b u hu n1 => by
    rw [upd_ne]
    · exact hu
    · rintro rfl
      rw [e] at hu; cases hu
      exact n1 _ rfl
  refine ⟨fun b o hb n _ => by rw [upd_ne (show b ≠ a from fun z => n (by rw [z]; exact ca))]; exact hb, fun b cb => ?_, fun q hq => ?_, fun b hb => ?_⟩
  · by_cases z : b = a
    · subst z; exact ⟨c, d, upd_same, h0, h1, h2⟩
    · obtain ⟨x, y, e, q⟩ := hc b cb
      exact ⟨x, y, by rw [upd_ne z]; exact e, q⟩
  · obtain ⟨ps, hps, tr, hcv⟩ := t q hq
    refine ⟨ps, oth _ _ hps (fun _ => by simp), tr, fun pos cv h => ?_⟩
    obtain ⟨c, e, hc⟩ := hcv pos cv h
    exact ⟨c, e, oth _ _ hc (fun _ => by simp [LamX.CodeO])⟩
  · obtain ⟨u, hu, t⟩ := hb
    by_cases z : b = a
    · subst z; exact ⟨_, upd_same, fun _ => by simp⟩
    · exact ⟨u, by rw [upd_ne z]; exact hu, t⟩
/-- the promise of the def that makes the cup -/
def spCup (K : PySem.W.Frag) : Sp := fun vs H Q _ => ∃ (a : Addr) (ns : List Int), vs = [.ref a] ∧ SqL K H a (ns.map V.int) ∧ ns.length ≤ 63 ∧ ∀ H' p, Same H H' → H p = none → CupAt H' p → Q (.ref p) H'
def spLaw (K : PySem.W.Frag) (tb : List (Addr × Str)) : Sp := fun vs H Q _ => ∃ (a : Addr) (ns : List Int), vs = [.ref a] ∧ SqL K H a (ns.map V.int) ∧ ns.length ≤ 63 ∧ LamX.Tabs tb H ∧ ∀ H', Q (.bl true) H'
def lawPost : Fl → Prop
  | .rt (.bl true) => True
  | _ => False
def lawEnv (n i : Nat) : Env := (List.replicate n .no).set i (.frz .cup)
/-- the law's body behind its cup -/
theorem law_body {X : Cx} {tb : List (Addr × Str)} {W : WX} {st : Stmt} {rest : List Stmt} {h : Env → T Fl} {i : Nat} {Ec : L2.St → XK} {Q : VK} {a : Addr} {ns : List Int} {H : Hp} (hN : 0 < X.N.length) (hi : i < X.N.length) (hi0 : i ≠ 0)
    (hst : PS X st (tAsg (tCallS (spCup X.K) Ec (tCons (tVar 0) tNil)) (gName i))) (hb : QB X (tb0 tb) W rest h) (hS : SqL X.K H a (ns.map V.int)) (hl : ns.length ≤ 63) (ht : LamX.Tabs tb H) (hQ : ∀ H', Q (.bl true) H')
    (hw : (h (lawEnv X.N.length i)).wp lawPost fun _ => False) : ∃ t, PSs X (st :: rest) t ∧ t { nx := fun _ H' => Q .non H', rt := Q } (L2.start X.N [.ref a]) H := by
  obtain ⟨u, p2, i2⟩ := hb.ex
  refine ⟨_, pss_cons hst p2, ?_⟩
  refine ⟨.ref a, ?_, a, ns, rfl, hS, hl, fun H1 p sm np cp => ?_⟩
  · unfold L2.start
    rfl
  have hlen : (L2.start X.N [.ref a]).length = X.N.length := by unfold L2.start; simp; omega
  have noown : ∀ j b, ¬ OwnAt ((L2.start X.N [.ref a]).set i (some (.ref p))) (lawEnv X.N.length i) j b := fun j b ⟨⟨d, e⟩, _⟩ => by
    unfold lawEnv at e
    by_cases hj : j = i
    · subst hj; cases set_self_eq e
    · rw [List.getElem?_set_ne (fun z => hj z.symm), List.getElem?_replicate] at e
      split at e <;> cases e
  have E : ER (pgOf X (tb0 tb)) ⟨H1, fun b => b = p, fun b => b = p, fun _ z => z⟩ ((L2.start X.N [.ref a]).set i (some (.ref p))) (lawEnv X.N.length i) H1 := by
    obtain ⟨c, d, e, _⟩ := id cp
    refine ⟨by unfold lawEnv; simp [hlen], fun b o h _ _ => h, fun b h => h, fun b z => by rw [show b = p from z]; exact cp, fun q hq => (ht q hq).ext fun b o e => sm b o e, fun b z => (show b = p from z) ▸ ⟨_, e, fun _ => by simp⟩, fun j s hs => ?_, fun j k b h => (noown j b h).elim, fun j b h => (noown j b h).elim, fun t z => by cases z⟩
    unfold lawEnv at hs
    by_cases hj : j = i
    · subst hj
      cases set_self_eq hs
      refine ⟨.ref p, by rw [List.getElem?_set_self (by rw [hlen]; exact hi)], ?_⟩
      simp only [Rep]
      exact ⟨p, rfl, rfl⟩
    · rw [List.getElem?_set_ne (fun z => hj z.symm), List.getElem?_replicate] at hs
      split at hs <;> cases hs
      trivial
  refine i2 _ _ _ H1 _ E (T.wp_mono (fun fl q => ?_) (fun _ z => z.elim) hw)
  cases fl with
  | rt d =>
    cases d with
    | bl b =>
      cases b with
      | true =>
        intro v σ' e' H' _ _ r
        simp only [Rep] at r
        subst r
        exact hQ H'
      | false => exact q.elim
    | _ => exact q.elim
  | _ => exact q.elim
theorem cx_false {P : Program} {w : World} {l : List PySem.Env} {H : Hp} {s s' : Shared} {e : Value} (h : L2.CX P w l H s (fun _ _ _ => False) e s') : False := by
  obtain ⟨_, _, _, _, _, _, _, _, _, _, _, _, z⟩ := h
  exact z
theorem tabs_nil {H : Hp} : LamX.Tabs [] H := fun _ h => absurd h List.not_mem_nil
/-! ### all draws tried -/
def allB (f : Nat → Bool) : Nat → Bool
  | 0 => true
  | n + 1 => f n && allB f n
theorem allB_of {f : Nat → Bool} : ∀ {n : Nat}, allB f n = true → ∀ i, i < n → f i = true
  | 0, _, i, h => by omega
  | n + 1, h, i, hi => by
    simp only [allB, Bool.and_eq_true] at h
    by_cases e : i = n
    · subst e; exact h.1
    · exact allB_of h.2 i (by omega)
namespace T
def chk {α : Type} (f : α → Bool) : T α → Bool
  | .ret a => f a
  | .exc _ => false
  | .bad => false
  | .draw n k => Nat.ble 1 n && allB (fun i => (k i).chk f) n
theorem chk_wp {α : Type} {f : α → Bool} {Q : α → Prop} {E : Ex → Prop} (hf : ∀ a, f a = true → Q a) : ∀ {t : T α}, t.chk f = true → t.wp Q E
  | .ret a, h => hf a h
  | .exc _, h => by cases h
  | .bad, h => by cases h
  | .draw n k, h => by
    simp only [chk, Bool.and_eq_true] at h
    exact ⟨Nat.le_of_ble_eq_true h.1, fun i hi => chk_wp hf (allB_of h.2 i hi)⟩
end T
end MM

namespace MM
open PySem PySem.Spec L2
section
variable {X : Cx} {tb : Tb} {W : WX} {pos : Pos}
/-! ### comparisons, as values and as tests -/
def CmpOk (X : Cx) (tb : Tb) (op : CmpOp) (F : D → D → Option D) : Prop := ∃ r, OpR X (compareOp op) r ∧ R2I X tb r F
theorem cm_eq (hu : X.A.units + 64 < cLine) : CmpOk X tb .Eq eqD := ⟨_, op_eqD hu, r2_eq⟩
theorem cm_ne (hu : X.A.units + 64 < cLine) : CmpOk X tb .NotEq neD := ⟨_, op_neD hu, r2_ne⟩
theorem cm_lt : CmpOk X tb .Lt ltI := ⟨_, op_lt, r2_int0 fun _ _ _ _ _ _ => repB⟩
theorem cm_le : CmpOk X tb .LtE leI := ⟨_, op_le, r2_int0 fun _ _ _ _ _ _ => repB⟩
theorem cm_gt : CmpOk X tb .Gt gtI := ⟨_, op_gt, r2_int0 fun _ _ _ _ _ _ => repB⟩
theorem cm_ge : CmpOk X tb .GtE geI := ⟨_, op_ge, r2_int0 fun _ _ _ _ _ _ => repB⟩
theorem cm_in (hu : X.A.units + 65 < cLine) : CmpOk X tb .In inD := ⟨_, op_inAll hu, r2_in⟩
theorem cm_notIn (hu : X.A.units + 65 < cLine) : CmpOk X tb .NotIn notInD := ⟨_, op_notInAll hu, r2_notIn⟩
theorem cm_is : CmpOk X tb .Is isND := ⟨_, op_isN, r2_isN⟩
theorem cm_isNot : CmpOk X tb .IsNot isNND := ⟨_, op_notN, r2_isNN⟩
theorem qe_cm {op : CmpOp} {F : D → D → Option D} {a b : Expr} {f1 f2 : Env → T D} (c : CmpOk X tb op F) (h1 : QP X tb W a f1) (h2 : QP X tb W b f2) (hm : behindInMarks op b = false := by first | exact nomark _ | rfl) : QE X tb W (.Compare a [op] [b] pos) (e2 F f1 f2) := by
  obtain ⟨r, ho, hr⟩ := c
  exact qe_cmp ho hr h1 h2 hm
theorem qt_cm {op : CmpOp} {F : D → D → Option D} {a b : Expr} {f1 f2 : Env → T D} (c : CmpOk X tb op F) (h1 : QP X tb W a f1) (h2 : QP X tb W b f2) (hm : behindInMarks op b = false := by first | exact nomark _ | rfl) : QT X tb W (.Compare a [op] [b] pos) (tB (e2 F f1 f2)) := by
  obtain ⟨r, ho, hr⟩ := c
  obtain ⟨t1, p1, i1⟩ := h1.ex
  obtain ⟨t2, p2, i2⟩ := h2.ex
  refine ⟨_, pt_cmpR ho p1 p2 hm, fun g σ env H Q E hw => ?_⟩
  unfold tB at hw
  rw [T.wp_bind] at hw
  refine imp2 hr i1 i2 g σ env H _ E (T.wp_mono (fun x q vx H1 s1 r1 => ?_) (fun _ z => z) hw)
  cases hx : isBl x with
  | none => rw [hx] at q; exact q.elim
  | some b =>
    rw [hx] at q
    have := isBl_eq hx
    subst this
    simp only [Rep] at r1
    exact ⟨b, r1, q H1 s1⟩
/-- a bool's test is the value's -/
theorem qt_of {e : Expr} {f : Env → T D} {t : TE} (hp : PT X e (tTest t)) (hi : ImpE (pgOf X tb) W t f) : QT X tb W e (tB f) := by
  refine ⟨_, hp, fun g σ env H Q E hw => ?_⟩
  unfold tB at hw
  rw [T.wp_bind] at hw
  refine hi g σ env H _ E (T.wp_mono (fun x q vx H1 s1 r1 => ?_) (fun _ z => z) hw)
  cases hx : isBl x with
  | none => rw [hx] at q; exact q.elim
  | some b =>
    rw [hx] at q
    have := isBl_eq hx
    subst this
    simp only [Rep] at r1
    exact ⟨b, r1, q H1 s1⟩
theorem qt_chain {op op' : CmpOp} {F G : Int → Int → Bool} {a b c : Expr} {f1 f2 f3 : Env → T D} (ho : OpR X (compareOp op) (rI0 fun i j => .bl (F i j))) (ho' : OpR X (compareOp op') (rI0 fun i j => .bl (G i j)))
    (h1 : QP X tb W a f1) (h2 : QP X tb W b f2) (h3 : QP X tb W c f3) (hm : lastMarks [op, op'] [b, c] = false := by rfl) :
    QT X tb W (.Compare a [op, op'] [b, c] pos) (tB (e3 (iI (fun _ _ => true) fun i j => .bl (F i j)) (iI (fun _ _ => true) fun i j => .bl (G i j)) f1 f2 f3)) := by
  obtain ⟨t1, p1, i1⟩ := h1.ex
  obtain ⟨t2, p2, i2⟩ := h2.ex
  obtain ⟨t3, p3, i3⟩ := h3.ex
  exact qt_of (pt_chain ho ho' p1 p2 p3 hm) (imp_chain i1 i2 i3)
/-! -x -/
def negD : D → Option D
  | .int i => some (.int (-i))
  | _ => none
theorem qe_neg {a : Expr} {f : Env → T D} (h : QP X tb W a f) : QE X tb W (.UnaryOp .USub a pos) (e1 negD f) := by
  obtain ⟨t, h1, h2⟩ := h.ex
  refine ⟨_, pe_un un_neg h1, fun g σ env H Q E hw => ?_⟩
  unfold e1 at hw
  rw [T.wp_bind] at hw
  refine h2 g σ env H _ E (T.wp_mono (fun x q vx H1 s1 r1 => ?_) (fun _ z => z) hw)
  cases x with
  | int i => simp only [RepP, Rep] at r1; exact ⟨i, r1, q _ H1 s1 repI⟩
  | _ => exact q.elim
/-! x in range(a, b) -/
def eInR (neg : Bool) (f : Env → T D) (fa : Env → T (List D)) : Env → T D := fun env => (f env).bind fun x => (fa env).bind fun
  | [.int a, .int b] => (ofO (isInt x)).bind fun i => .ret (.bl (if neg then !(decide (a ≤ i) && decide (i < b)) else decide (a ≤ i) && decide (i < b)))
  | _ => .bad
theorem op_notIn_rng : OpR X (compareOp .NotIn) (fun x y H Q => ∃ i a lo hi, x = V.int i ∧ y = V.ref a ∧ H a = some (.rng lo hi) ∧ Q (.bl (!decide (lo ≤ i ∧ i < hi))) H) := by
  intro pins s σ H x y v u Q I rx ry h
  obtain ⟨i, a, lo, hi, rfl, rfl, ha, q⟩ := h
  obtain ⟨k, rfl⟩ := rx
  obtain rfl : u = Value.ref a := ry
  obtain ⟨t1, t2, t3, ho⟩ := I.hok a _ ha
  show wpAny _ _ (do return Value.bool (!(← contains (Value.ref a) (Value.int i k)))) _ _ s
  refine wpAny_bind (wpAny_contains_slot (T := "range") ⟨_, ho, rfl⟩ F.slot_range_contains (call_meets F.slot_range_contains ⟨_, ho, rfl⟩ F.entry_range_contains (F.args_range_contains_2 _ _) (q_contains a lo hi i t1 t2 t3 k)
    ⟨ho, wpAny_truthy_bool (wpAny_pure ⟨.bl _, H, I, rfl, ?_⟩)⟩))
  rw [place1]
  exact q
theorem imp_inR (neg : Bool) {t1 : TE} {ta : TA} {f : Env → T D} {fa : Env → T (List D)} (i1 : ImpP (pgOf X tb) W t1 f)
    (i2 : ∀ g σ env H (Q : List V → Hp → Prop), ER (pgOf X tb) g σ env H → (fa env).wp (fun ds => ∀ vs H', Step (pgOf X tb) g.C H H' → RepPs (pgOf X tb) g.C H' (Nn g σ env) ds vs → Q vs H') (XP (pgOf X tb) g σ H W) → ta σ H Q) :
    ImpE (pgOf X tb) W (tOp (fun x y H Q => ∃ i a lo hi, x = V.int i ∧ y = V.ref a ∧ H a = some (.rng lo hi) ∧ Q (.bl (if neg then !decide (lo ≤ i ∧ i < hi) else decide (lo ≤ i ∧ i < hi))) H) t1 (tCB (fun vs H Q => ∃ i j, vs = [V.int i, V.int j] ∧ ∀ p, H p = none → Q (.ref p) (upd H p (.rng i j))) ta)) (eInR neg f fa) := fun g σ env H Q E hw => by
  unfold eInR at hw
  rw [T.wp_bind] at hw
  refine i1 g σ env H _ E (T.wp_mono (fun x q vx H1 s1 r1 => ?_) (fun _ z => z) hw)
  rw [T.wp_bind] at q
  have E1 := E.step s1
  refine i2 g σ env H1 _ E1 (T.wp_mono (fun xs q vs H2 s2 r2 => ?_) (wpStep s1) q)
  split at q
  · rename_i a b
    obtain ⟨v, w, rfl, ra, rb⟩ := rep2 r2
    simp only [RepP, Rep] at ra rb
    subst ra rb
    have E2 := E1.step s2
    refine ⟨a, b, rfl, fun p hp => ?_⟩
    cases x with
    | int i =>
      simp only [RepP, Rep] at r1
      subst r1
      have st := E2.alloc (o := .rng a b) hp
      refine ⟨i, p, a, b, rfl, rfl, upd_same, ?_⟩
      have e : decide (a ≤ i ∧ i < b) = (decide (a ≤ i) && decide (i < b)) := by simp
      rw [e]
      exact q _ _ (s1.trans (s2.trans st)) repB
    | _ => exact q.elim
  · exact q.elim
theorem qe_inR {a e1 e2' : Expr} {p rp : Pos} {f : Env → T D} {fa : Env → T (List D)} (h1 : QP X tb W a f) (hg : Gl X "range") (hm : X.mg "range" = none) (ha : QAP X tb W [e1, e2'] fa) (hs : starEach [e1, e2'] X.env = (false, eval e1 X.env) :: starEach [e2'] X.env := by rfl) (hpl : (backTo rp (starEach [e2'] X.env)).any (·.1) = false := by rfl) :
    QE X tb W (.Compare a [.In] [.Call (.Name "range" p) [e1, e2'] [] rp] pos) (eInR false f fa) := by
  obtain ⟨t1, p1, i1⟩ := h1.ex
  obtain ⟨t2, p2, i2⟩ := ha.ex
  exact ⟨_, pe_cmpR op_in_rng p1 (pe_callTy cr_range2 hg hm (by decide +kernel) p2 (by decide) (by decide) hs hpl) (by rfl), imp_inR false i1 i2⟩
theorem qe_notInR {a e1 e2' : Expr} {p rp : Pos} {f : Env → T D} {fa : Env → T (List D)} (h1 : QP X tb W a f) (hg : Gl X "range") (hm : X.mg "range" = none) (ha : QAP X tb W [e1, e2'] fa) (hs : starEach [e1, e2'] X.env = (false, eval e1 X.env) :: starEach [e2'] X.env := by rfl) (hpl : (backTo rp (starEach [e2'] X.env)).any (·.1) = false := by rfl) :
    QE X tb W (.Compare a [.NotIn] [.Call (.Name "range" p) [e1, e2'] [] rp] pos) (eInR true f fa) := by
  obtain ⟨t1, p1, i1⟩ := h1.ex
  obtain ⟨t2, p2, i2⟩ := ha.ex
  exact ⟨_, pe_cmpR op_notIn_rng p1 (pe_callTy cr_range2 hg hm (by decide +kernel) p2 (by decide) (by decide) hs hpl) (by rfl), imp_inR true i1 i2⟩
theorem qt_inR {a e1 e2' : Expr} {p rp : Pos} {f : Env → T D} {fa : Env → T (List D)} (h1 : QP X tb W a f) (hg : Gl X "range") (hm : X.mg "range" = none) (ha : QAP X tb W [e1, e2'] fa) (hs : starEach [e1, e2'] X.env = (false, eval e1 X.env) :: starEach [e2'] X.env := by rfl) (hpl : (backTo rp (starEach [e2'] X.env)).any (·.1) = false := by rfl) :
    QT X tb W (.Compare a [.In] [.Call (.Name "range" p) [e1, e2'] [] rp] pos) (tB (eInR false f fa)) := by
  obtain ⟨t1, p1, i1⟩ := h1.ex
  obtain ⟨t2, p2, i2⟩ := ha.ex
  exact qt_of (pt_cmpR op_in_rng p1 (pe_callTy cr_range2 hg hm (by decide +kernel) p2 (by decide) (by decide) hs hpl) (by rfl)) (imp_inR false i1 i2)
theorem qt_notInR {a e1 e2' : Expr} {p rp : Pos} {f : Env → T D} {fa : Env → T (List D)} (h1 : QP X tb W a f) (hg : Gl X "range") (hm : X.mg "range" = none) (ha : QAP X tb W [e1, e2'] fa) (hs : starEach [e1, e2'] X.env = (false, eval e1 X.env) :: starEach [e2'] X.env := by rfl) (hpl : (backTo rp (starEach [e2'] X.env)).any (·.1) = false := by rfl) :
    QT X tb W (.Compare a [.NotIn] [.Call (.Name "range" p) [e1, e2'] [] rp] pos) (tB (eInR true f fa)) := by
  obtain ⟨t1, p1, i1⟩ := h1.ex
  obtain ⟨t2, p2, i2⟩ := ha.ex
  exact qt_of (pt_cmpR op_notIn_rng p1 (pe_callTy cr_range2 hg hm (by decide +kernel) p2 (by decide) (by decide) hs hpl) (by rfl)) (imp_inR true i1 i2)
end
end MM

namespace MM
open PySem PySem.Spec L2

/-! ### reckoning with mirrors -/
theorem T.bind_ret {α β : Type} (a : α) (f : α → T β) : (T.ret a).bind f = f a := rfl
theorem T.bind_bad {α β : Type} (f : α → T β) : (T.bad : T α).bind f = .bad := rfl
theorem T.bind_exc {α β : Type} (e : Ex) (f : α → T β) : (T.exc e : T α).bind f = .exc e := rfl
theorem T.wp_ret {α : Type} (a : α) (Q : α → Prop) (E : Ex → Prop) : (T.ret a).wp Q E ↔ Q a := Iff.rfl
theorem T.noX_ret {α : Type} (a : α) : (T.ret a).noX = .ret a := rfl
theorem T.bind_assoc {α β γ : Type} {f : α → T β} {g : β → T γ} : ∀ {t : T α}, (t.bind f).bind g = t.bind fun a => (f a).bind g
  | .ret _ => rfl
  | .exc _ => rfl
  | .bad => rfl
  | .draw n k => by
    show T.draw n (fun i => ((k i).bind f).bind g) = T.draw n fun i => (k i).bind fun a => (f a).bind g
    congr 1
    funext i
    exact T.bind_assoc
theorem ofO_some {α : Type} (a : α) : ofO (some a) = .ret a := rfl
section
variable {Q : Fl → Prop} {E : Ex → Prop} {env : Env} {a b : Env → T Fl}
theorem seq_wp (h : (a env).wp (fun fl => match fl with | .nx e => (b e).wp Q E | f => Q f) E) : (sSeq a b env).wp Q E := by
  unfold sSeq
  rw [T.wp_bind]
  refine T.wp_mono (fun fl q => ?_) (fun _ z => z) h
  cases fl <;> exact q
theorem seq_eq {e' : Env} (h : a env = .ret (.nx e')) : sSeq a b env = b e' := by
  unfold sSeq
  rw [h]
  rfl
theorem seq_rt {d : D} (h : a env = .ret (.rt d)) : sSeq a b env = .ret (.rt d) := by
  unfold sSeq
  rw [h]
  rfl
theorem seq_go {e' : Env} (h1 : a env = .ret (.nx e')) (h2 : (b e').wp Q E) : (sSeq a b env).wp Q E := by
  rw [seq_eq h1]
  exact h2
theorem for_go {tgt : D → Env → Option Env} {body : Env → T Fl} {it : Env → T (List D)} {ds : List D} (h1 : it env = .ret ds) (h2 : (forL tgt body ds env).wp Q E) : (sFor it tgt body env).wp Q E := by
  unfold sFor
  rw [h1]
  exact h2
theorem wp_of {α : Type} {t : T α} {a : α} {Q : α → Prop} {E : Ex → Prop} (h : t = .ret a) (q : Q a) : t.wp Q E := by
  rw [h]; exact q
theorem for_wp {tgt : D → Env → Option Env} {body : Env → T Fl} {it : Env → T (List D)} (h : (it env).wp (fun ds => (forL tgt body ds env).wp Q E) E) : (sFor it tgt body env).wp Q E := by
  unfold sFor
  rw [T.wp_bind]
  exact h
/-- a loop by what holds between its turns -/
theorem forL_inv {tgt : D → Env → Option Env} {body : Env → T Fl} (I : Env → Prop) : ∀ {ds : List D} {env : Env}, I env →
    (∀ d ∈ ds, ∀ e, I e → ∃ e', tgt d e = some e' ∧ (body e').wp (fun | .nx e => I e | .ct e => I e | .bk e => Q (.nx e) | .rt v => Q (.rt v)) E) → (∀ e, I e → Q (.nx e)) → (forL tgt body ds env).wp Q E
  | [], env, h0, _, hd => hd env h0
  | d :: ds, env, h0, ht, hd => by
    obtain ⟨e', h1, h2⟩ := ht d List.mem_cons_self env h0
    show ((ofO (tgt d env)).bind _).wp Q E
    rw [h1]
    show ((body e').bind _).wp Q E
    rw [T.wp_bind]
    refine T.wp_mono (fun fl q => ?_) (fun _ z => z) h2
    cases fl with
    | nx e => exact forL_inv I q (fun d' hd' => ht d' (List.mem_cons_of_mem _ hd')) hd
    | ct e => exact forL_inv I q (fun d' hd' => ht d' (List.mem_cons_of_mem _ hd')) hd
    | bk e => exact q
    | rt v => exact q
end
section
variable {Q : Fl → Prop} {E : Ex → Prop}
/-- .. with the turns counted -/
theorem forL_inv2 {tgt : D → Env → Option Env} {body : Env → T Fl} (I : Nat → Env → Prop) : ∀ {ds : List D} {env : Env} {k : Nat}, I k env →
    (∀ i d, ds[i]? = some d → ∀ e, I (k + i) e → ∃ e', tgt d e = some e' ∧ (body e').wp (fun | .nx e => I (k + i + 1) e | .ct e => I (k + i + 1) e | .bk e => Q (.nx e) | .rt v => Q (.rt v)) E) → (∀ e, I (k + ds.length) e → Q (.nx e)) → (forL tgt body ds env).wp Q E
  | [], env, k, h0, _, hd => hd env h0
  | d :: ds, env, k, h0, ht, hd => by
    obtain ⟨e', h1, h2⟩ := ht 0 d rfl env h0
    show ((ofO (tgt d env)).bind _).wp Q E
    rw [h1]
    show ((body e').bind _).wp Q E
    rw [T.wp_bind]
    have next : ∀ e, I (k + 0 + 1) e → (forL tgt body ds e).wp Q E := fun e q => forL_inv2 I (k := k + 1) q (fun i d' hd' e he => by
      have := ht (i + 1) d' (by simpa using hd') e (by rw [show k + (i + 1) = k + 1 + i by omega]; exact he)
      rw [show k + (i + 1) + 1 = k + 1 + i + 1 by omega] at this
      exact this) fun e he => hd e (by rw [List.length_cons, show k + (ds.length + 1) = k + 1 + ds.length by omega]; exact he)
    refine T.wp_mono (fun fl q => ?_) (fun _ z => z) h2
    cases fl with
    | nx e => exact next e q
    | ct e => exact next e q
    | bk e => exact q
    | rt v => exact q
end
/-- a loop, then the rest -/
theorem seq_for {Q : Fl → Prop} {E : Ex → Prop} {tgt : D → Env → Option Env} {body b : Env → T Fl} {it : Env → T (List D)} {ds : List D} {env : Env} (h1 : it env = .ret ds) (I : Env → Prop) (h0 : I env)
    (ht : ∀ d ∈ ds, ∀ e, I e → ∃ e', tgt d e = some e' ∧ (body e').wp (fun | .nx e => I e | .ct e => I e | .bk e => (b e).wp Q E | .rt v => Q (.rt v)) E) (hd : ∀ e, I e → (b e).wp Q E) : (sSeq (sFor it tgt body) b env).wp Q E := by
  refine seq_wp (for_go h1 (forL_inv I h0 (fun d hd' e he => ?_) fun e he => hd e he))
  obtain ⟨e', a1, a2⟩ := ht d hd' e he
  exact ⟨e', a1, T.wp_mono (fun fl q => by cases fl <;> exact q) (fun _ z => z) a2⟩
theorem seq_for2 {P : List D → Prop} {Q : Fl → Prop} {E : Ex → Prop} {tgt : D → Env → Option Env} {body b : Env → T Fl} {it : Env → T (List D)} {env : Env} (h1 : ∀ Q', (∀ ds, P ds → Q' ds) → (it env).wp Q' E) (I : Nat → Env → Prop) (h0 : I 0 env)
    (ht : ∀ ds, P ds → ∀ i d, ds[i]? = some d → ∀ e, I i e → ∃ e', tgt d e = some e' ∧ (body e').wp (fun | .nx e => I (i + 1) e | .ct e => I (i + 1) e | .bk e => (b e).wp Q E | .rt v => Q (.rt v)) E) (hd : ∀ ds, P ds → ∀ e, I ds.length e → (b e).wp Q E) : (sSeq (sFor it tgt body) b env).wp Q E := by
  refine seq_wp (for_wp (h1 _ fun ds hp => ?_))
  refine forL_inv2 (k := 0) I h0 (fun i d hdi e he => ?_) (fun e he => hd ds hp e (by simpa using he))
  rw [Nat.zero_add] at he
  obtain ⟨e', a1, a2⟩ := ht ds hp i d hdi e he
  refine ⟨e', a1, T.wp_mono (fun fl q => ?_) (fun _ z => z) a2⟩
  rw [Nat.zero_add]
  cases fl <;> exact q
theorem addD_str {s t : List Nat} (h : s.length + t.length ≤ 16777216) : addD (.str s) (.str t) = some (.str (s ++ t)) := by
  simp only [addD, if_pos h]
theorem addD_lst {s t : List D} (h : s.length + t.length ≤ 16777216) : addD (.lst s) (.lst t) = some (.lst (s ++ t)) := by
  simp only [addD, if_pos h]
theorem addD_tup {s t : List D} (h : s.length + t.length ≤ 16777216) : addD (.tup s) (.tup t) = some (.tup (s ++ t)) := by
  simp only [addD, if_pos h]
/-- a comprehension, reckoned -/
theorem compL_eq {tgt : D → Env → Option Env} {cond : Env → T Bool} {elt : Env → T D} {env0 : Env} (c : D → Bool) (g : D → D) : ∀ {ds : List D},
    (∀ d ∈ ds, ∃ e, tgt d env0 = some e ∧ cond e = .ret (c d) ∧ (c d = true → elt e = .ret (g d))) → compL tgt cond elt env0 ds = .ret ((ds.filter c).map g)
  | [], _ => rfl
  | d :: ds, h => by
    obtain ⟨e, h1, h2, h3⟩ := h d List.mem_cons_self
    have ih := compL_eq c g (ds := ds) fun d' hd' => h d' (List.mem_cons_of_mem _ hd')
    simp only [compL, h1, ofO_some, T.bind_ret, h2, T.noX_ret]
    cases hc : c d with
    | true => simp only [if_true, h3 hc, T.noX_ret, T.bind_ret, ih, List.filter_cons, hc, List.map_cons]
    | false => simp [ih, List.filter_cons, hc]
theorem compL_map {tgt : D → Env → Option Env} {elt : Env → T D} {env0 : Env} (g : D → D) {ds : List D} (h : ∀ d ∈ ds, ∃ e, tgt d env0 = some e ∧ elt e = .ret (g d)) : compL tgt tYesB elt env0 ds = .ret (ds.map g) := by
  have := compL_eq (tgt := tgt) (cond := tYesB) (elt := elt) (env0 := env0) (fun _ => true) g (ds := ds) fun d hd => by
    obtain ⟨e, h1, h2⟩ := h d hd
    exact ⟨e, h1, rfl, fun _ => h2⟩
  rw [this, List.filter_eq_self.mpr (fun _ _ => rfl)]
/-- draws aside: a comprehension of which only what each item gives is known -/
theorem compL_wp {tgt : D → Env → Option Env} {cond : Env → T Bool} {elt : Env → T D} {env0 : Env} {E : Ex → Prop} (P : D → Prop) : ∀ {ds : List D} {Q : List D → Prop},
    (∀ d ∈ ds, ∃ e, tgt d env0 = some e ∧ (cond e).noX.wp (fun b => b = true → (elt e).noX.wp P E) E) → (∀ ys, (∀ y ∈ ys, P y) → ys.length ≤ ds.length → Q ys) → (compL tgt cond elt env0 ds).wp Q E
  | [], Q, _, hq => hq [] (fun _ h => absurd h List.not_mem_nil) (Nat.le_refl _)
  | d :: ds, Q, h, hq => by
    obtain ⟨e, h1, h2⟩ := h d List.mem_cons_self
    simp only [compL, h1, ofO_some, T.bind_ret]
    rw [T.wp_bind]
    refine T.wp_mono (fun b hb => ?_) (fun _ z => z) h2
    cases b with
    | true =>
      rw [if_pos rfl, T.wp_bind]
      refine T.wp_mono (fun y hy => ?_) (fun _ z => z) (hb rfl)
      rw [T.wp_bind]
      refine compL_wp P (fun d' hd' => h d' (List.mem_cons_of_mem _ hd')) fun ys h1 h2 => hq (y :: ys) (fun z hz => ?_) (by simp; omega)
      rcases List.mem_cons.mp hz with rfl | hz
      · exact hy
      · exact h1 z hz
    | false =>
      rw [if_neg (by simp)]
      exact compL_wp P (fun d' hd' => h d' (List.mem_cons_of_mem _ hd')) fun ys h1 h2 => hq ys h1 (by simp; omega)

/-! ### the law's common helpers -/
def b_some : Env → T Fl := (sRet (e2 ixD (eVar 1) (eFn 2 rollM (aCons (eVar 0) (aCons (eCall lenD (aCons (eVar 1) aNil)) aNil)))))
def m_some : List D → T D := runB 2 b_some
theorem roll_wp {n : Int} {Q : D → Prop} {E : Ex → Prop} (h0 : 0 < n) (h1 : n < 1073741824) (h : ∀ i : Nat, (i : Int) < n → Q (.int i)) : (rollM [.cup, .int n]).wp Q E := by
  show (if 0 < n ∧ n < 1073741824 then T.draw n.toNat fun i => T.ret (D.int i) else T.bad).wp Q E
  rw [if_pos ⟨h0, h1⟩]
  exact ⟨by omega, fun i hi => h i (by omega)⟩
theorem some_seq {x : D} {n : Nat} {Q : D → Prop} {E : Ex → Prop} (hl : lenD [x] = some (.int n)) (h0 : 0 < n) (h1 : n ≤ 16777216) (h : ∀ i : Nat, i < n → ∃ d, ixD x (.int i) = some d ∧ Q d) : (m_some [.cup, x]).wp Q E := by
  have ea : (aCons (eVar 0) (aCons (eCall lenD (aCons (eVar 1) aNil)) aNil)) [.frz .cup, .frz x] = .ret [.cup, .int n] := by
    have e1 : (eCall lenD (aCons (eVar 1) aNil)) [.frz .cup, .frz x] = .ret (.int n) := by
      show ofO (lenD [x]) = _
      rw [hl]
      rfl
    show (T.ret D.cup).bind (fun a => ((eCall lenD (aCons (eVar 1) aNil)) [.frz .cup, .frz x]).bind (fun b => (T.ret ([] : List D)).bind fun xs => .ret (b :: xs)) |>.bind fun xs => .ret (a :: xs)) = _
    rw [e1]
    rfl
  have ef : (eFn 2 rollM (aCons (eVar 0) (aCons (eCall lenD (aCons (eVar 1) aNil)) aNil))) [.frz .cup, .frz x] = rollM [.cup, .int n] := by
    unfold eFn
    rw [ea]
    rfl
  have eb : b_some [.frz .cup, .frz x] = (rollM [.cup, .int n]).bind fun y => (ofO (ixD x y)).bind fun d => .ret (.rt d) := by
    have h1 : b_some [.frz .cup, .frz x] = (((eFn 2 rollM (aCons (eVar 0) (aCons (eCall lenD (aCons (eVar 1) aNil)) aNil))) [.frz .cup, .frz x]).bind fun y => ofO (ixD x y)).bind fun d => .ret (Fl.rt d) := rfl
    rw [h1, ef, T.bind_assoc]
  show ((b_some [.frz .cup, .frz x]).bind _).wp Q E
  rw [eb, T.wp_bind, T.wp_bind]
  refine roll_wp (by omega) (by omega) fun i hi => ?_
  obtain ⟨d, hd, hq⟩ := h i (by omega)
  rw [hd]
  exact hq
theorem ixN_nat {n i : Nat} (h : i < n) : ixN n (i : Int) = some i := by
  unfold ixN
  rw [if_pos (by omega), if_pos (by omega)]
  simp
theorem some_str {s : List Nat} {Q : D → Prop} {E : Ex → Prop} (h0 : s ≠ []) (h1 : s.length ≤ 16777216) (h : ∀ c ∈ s, Q (.str [c])) : (m_some [.cup, .str s]).wp Q E := by
  refine some_seq (n := s.length) rfl (List.length_pos_iff.mpr h0) h1 fun i hi => ⟨.str [s[i]], ?_, h _ (List.getElem_mem hi)⟩
  simp only [ixD, ixN_nat hi, Option.bind_some, List.getElem?_eq_getElem hi, Option.map_some]
theorem some_lst {s : List D} {Q : D → Prop} {E : Ex → Prop} (h0 : s ≠ []) (h1 : s.length ≤ 16777216) (h : ∀ c ∈ s, Q c) : (m_some [.cup, .lst s]).wp Q E := by
  refine some_seq (n := s.length) rfl (List.length_pos_iff.mpr h0) h1 fun i hi => ⟨s[i], ?_, h _ (List.getElem_mem hi)⟩
  simp only [ixD, ixN_nat hi, Option.bind_some, List.getElem?_eq_getElem hi]
theorem some_tup {s : List D} {Q : D → Prop} {E : Ex → Prop} (h0 : s ≠ []) (h1 : s.length ≤ 16777216) (h : ∀ c ∈ s, Q c) : (m_some [.cup, .tup s]).wp Q E := by
  refine some_seq (n := s.length) rfl (List.length_pos_iff.mpr h0) h1 fun i hi => ⟨s[i], ?_, h _ (List.getElem_mem hi)⟩
  simp only [ixD, ixN_nat hi, Option.bind_some, List.getElem?_eq_getElem hi]
def b_sort : Env → T Fl :=
  (sSeq (sIf (tOr (tB (e2 isND (eVar 0) (eC .non))) (tB (e1 (isiD "bool") (eVar 0)))) (sRet (eIf (tB (e2 isND (eVar 0) (eC .non))) (eC (.int 0)) (eC (.int 1)))) sNx)
    (sSeq (sIf (tOr (tB (e1 (isiD "int") (eVar 0))) (tB (e1 (isiD "str") (eVar 0)))) (sRet (eIf (tB (e1 (isiD "int") (eVar 0))) (eC (.int 2)) (eC (.int 3)))) sNx)
    (sRet (eIf (tB (e1 (isiD "tuple") (eVar 0))) (eC (.int 4)) (eIf (tB (e1 (isiD "list") (eVar 0))) (eC (.int 5)) (eC (.int 6)))))))
def m_sort : List D → T D := runB 1 b_sort
def b_like (rec : List D → T D) : Env → T Fl :=
  (sSeq (sSet 2 (eFn 1 m_sort (aCons (eVar 1) aNil)))
    (sSeq (sIf (tOr (tB (e2 neD (eFn 1 m_sort (aCons (eVar 0) aNil)) (eVar 2))) (tB (e2 eqD (eVar 2) (eC (.int 6))))) (sRet (eC (.bl false))) sNx)
    (sSeq (sIf (tB (e2 inD (eVar 2) (eTup (aCons (eC (.int 4)) (aCons (eC (.int 5)) aNil))))) (sRet (eAnd (e2 eqD (eCall lenD (aCons (eVar 0) aNil)) (eCall lenD (aCons (eVar 1) aNil))) (e2 eqD (eComp (iArg zipD (aCons (eVar 0) (aCons (eVar 1) aNil))) [3, 4] (sTup [3, 4]) (tNot (tB (eFn 2 rec (aCons (eVar 3) (aCons (eVar 4) aNil))))) (eC (.int 1))) (eLst aNil)))) sNx)
    (sRet (e2 eqD (eVar 0) (eVar 1))))))
def r_like : Nat → List D → T D
  | 0 => fun _ => .bad
  | k + 1 => runB 5 (b_like (r_like k))
def kind : D → Option Int
  | .non => some 0 | .bl _ => some 1 | .int _ => some 2 | .str _ => some 3 | .tup _ => some 4 | .lst _ => some 5 | .dic _ => some 6 | _ => none
theorem sort_eq {d : D} {k : Int} (h : kind d = some k) : m_sort [d] = .ret (.int k) := by
  cases d <;> cases h <;> rfl
mutual
/-- equal, the kinds of all parts too -/
def likeB : D → D → Bool
  | .non, .non => true
  | .bl a, .bl b => a == b
  | .int a, .int b => decide (a = b)
  | .str a, .str b => eqNats a b
  | .tup a, .tup b => likeL a b
  | .lst a, .lst b => likeL a b
  | _, _ => false
def likeL : List D → List D → Bool
  | [], [] => true
  | x :: xs, y :: ys => likeB x y && likeL xs ys
  | _, _ => false
end
mutual
theorem okN_mono : ∀ {n m : Nat} {d : D}, n ≤ m → d.okN n = true → d.okN m = true
  | n, m, d, h, hd => by
    cases d with
    | lst xs =>
      cases n with
      | zero => simp [D.okN] at hd
      | succ n =>
        cases m with
        | zero => omega
        | succ m => simp only [D.okN] at hd ⊢; exact okNL_mono (by omega) hd
    | tup xs =>
      cases n with
      | zero => simp [D.okN] at hd
      | succ n =>
        cases m with
        | zero => omega
        | succ m => simp only [D.okN] at hd ⊢; exact okNL_mono (by omega) hd
    | _ => simpa [D.okN] using hd
theorem okNL_mono : ∀ {n m : Nat} {ds : List D}, n ≤ m → okNL n ds = true → okNL m ds = true
  | _, _, [], _, _ => by simp [okNL]
  | n, m, d :: ds, h, hd => by
    simp only [okNL, Bool.and_eq_true] at hd ⊢
    exact ⟨okN_mono h hd.1, okNL_mono h hd.2⟩
end
theorem okNL_mem {n : Nat} : ∀ {ds : List D} {d : D}, okNL n ds = true → d ∈ ds → d.okN n = true
  | x :: ds, d, h, hd => by
    simp only [okNL, Bool.and_eq_true] at h
    rcases List.mem_cons.mp hd with rfl | hd
    · exact h.1
    · exact okNL_mem h.2 hd
theorem okNL_of {n : Nat} : ∀ {ds : List D}, (∀ d ∈ ds, d.okN n = true) → okNL n ds = true
  | [], _ => by simp [okNL]
  | d :: ds, h => by simp only [okNL, Bool.and_eq_true]; exact ⟨h d List.mem_cons_self, okNL_of fun x hx => h x (List.mem_cons_of_mem _ hx)⟩
def badPair : D → Bool
  | .tup [a, b] => !likeB a b
  | _ => false
theorem likeL_zip : ∀ {xs ys : List D}, xs.length = ys.length → (((zipL xs ys).filter badPair).map (fun _ => D.int 1) = [] ↔ likeL xs ys = true)
  | [], [], _ => by simp [zipL, likeL]
  | x :: xs, y :: ys, h => by
    have ih := likeL_zip (xs := xs) (ys := ys) (by simpa using h)
    simp only [zipL, List.filter_cons, badPair, likeL, Bool.and_eq_true]
    by_cases hb : likeB x y = true
    · simp only [hb, Bool.not_true, Bool.false_eq_true, if_false, true_and]; exact ih
    · simp [hb]
  | [], _ :: _, h => by simp at h
  | _ :: _, [], h => by simp at h
theorem likeL_len : ∀ {xs ys : List D}, likeL xs ys = true → xs.length = ys.length
  | [], [], _ => rfl
  | x :: xs, y :: ys, h => by
    simp only [likeL, Bool.and_eq_true] at h
    simp [likeL_len h.2]
  | [], _ :: _, h => by simp [likeL] at h
  | _ :: _, [], h => by simp [likeL] at h
theorem eqD_int (i j : Int) : eqD (.int i) (.int j) = some (.bl (decide (i = j))) := rfl
theorem eqD_ones {l : List D} (h : ∀ d ∈ l, d = D.int 1) : eqD (.lst l) (.lst []) = some (.bl (decide (l = []))) := by
  have h1 : D.okN 64 (.lst l) = true := by
    simp only [D.okN]
    exact okNL_of fun d hd => by rw [h d hd]; rfl
  unfold eqD
  rw [h1, show D.okN 64 (.lst []) = true from rfl]
  cases l with
  | nil => rfl
  | cons a l => simp [D.eqv, eqvL]
theorem like_seq {k : Nat} {s : Bool} {xs ys : List D} (ih : ∀ x y, x ∈ xs → y ∈ ys → r_like k [x, y] = .ret (.bl (likeB x y))) :
    r_like (k + 1) [if s then .tup xs else .lst xs, if s then .tup ys else .lst ys] = .ret (.bl (likeL xs ys)) := by
  have key : ∀ (a b : D) (t : D), lenD [a] = some (.int xs.length) → lenD [b] = some (.int ys.length) → zipD [a, b] = some (zipL xs ys) →
      (eAnd (e2 eqD (eCall lenD (aCons (eVar 0) aNil)) (eCall lenD (aCons (eVar 1) aNil))) (e2 eqD (eComp (iArg zipD (aCons (eVar 0) (aCons (eVar 1) aNil))) [3, 4] (sTup [3, 4]) (tNot (tB (eFn 2 (r_like k) (aCons (eVar 3) (aCons (eVar 4) aNil))))) (eC (.int 1))) (eLst aNil)))
        [.frz a, .frz b, .frz t, .no, .no] = .ret (.bl (likeL xs ys)) := fun a b t h1 h2 h3 => by
    have e1 : (e2 eqD (eCall lenD (aCons (eVar 0) aNil)) (eCall lenD (aCons (eVar 1) aNil))) [.frz a, .frz b, .frz t, .no, .no] = .ret (.bl (decide ((xs.length : Int) = ys.length))) := by
      have e0 : (e2 eqD (eCall lenD (aCons (eVar 0) aNil)) (eCall lenD (aCons (eVar 1) aNil))) [.frz a, .frz b, .frz t, .no, .no] = (ofO (lenD [a])).bind (fun x => (ofO (lenD [b])).bind fun y => ofO (eqD x y)) := by kernel_rfl
      rw [e0, h1, h2]
      kernel_rfl
    have e3 : (eComp (iArg zipD (aCons (eVar 0) (aCons (eVar 1) aNil))) [3, 4] (sTup [3, 4]) (tNot (tB (eFn 2 (r_like k) (aCons (eVar 3) (aCons (eVar 4) aNil))))) (eC (.int 1))) [.frz a, .frz b, .frz t, .no, .no] = .ret (.lst (((zipL xs ys).filter badPair).map fun _ => D.int 1)) := by
      have e0 : (eComp (iArg zipD (aCons (eVar 0) (aCons (eVar 1) aNil))) [3, 4] (sTup [3, 4]) (tNot (tB (eFn 2 (r_like k) (aCons (eVar 3) (aCons (eVar 4) aNil))))) (eC (.int 1))) [.frz a, .frz b, .frz t, .no, .no] = (ofO (zipD [a, b])).bind (fun ds => (compL (sTup [3, 4]) (tNot (tB (eFn 2 (r_like k) (aCons (eVar 3) (aCons (eVar 4) aNil))))) (eC (.int 1)) [.frz a, .frz b, .frz t, .no, .no] ds).bind fun ys => .ret (D.lst ys)) := by kernel_rfl
      rw [e0, h3, ofO_some, T.bind_ret, compL_eq badPair (fun _ => D.int 1)]
      · rfl
      · intro d hd
        obtain ⟨i, hi, e⟩ := List.getElem_of_mem hd
        have hg : (zipL xs ys)[i]? = some d := by rw [List.getElem?_eq_getElem hi, e]
        obtain ⟨x, y, hx, hy, rfl⟩ := zipL_get hg
        refine ⟨[.frz a, .frz b, .frz t, .frz x, .frz y], rfl, ?_, fun _ => rfl⟩
        have e4 : (tNot (tB (eFn 2 (r_like k) (aCons (eVar 3) (aCons (eVar 4) aNil))))) [.frz a, .frz b, .frz t, .frz x, .frz y] = ((r_like k [x, y]).bind fun x => ofO (isBl x)).bind (fun b => .ret (!b)) := by kernel_rfl
        rw [e4, ih x y (List.mem_of_getElem? hx) (List.mem_of_getElem? hy)]
        rfl
    unfold eAnd
    rw [e1, T.bind_ret]
    show (if decide ((xs.length : Int) = ys.length) = true then _ else T.ret (D.bl false)) = _
    by_cases hl : xs.length = ys.length
    · rw [if_pos (by simp [hl])]
      unfold e2
      rw [e3, T.bind_ret]
      show ofO (eqD (.lst _) (.lst [])) = _
      rw [eqD_ones (fun d hd => by
        obtain ⟨_, _, h⟩ := List.mem_map.mp hd
        exact h.symm), ofO_some]
      congr 2
      cases hL : likeL xs ys with
      | true => exact decide_eq_true ((likeL_zip hl).mpr hL)
      | false => exact decide_eq_false fun z => by rw [(likeL_zip hl).mp z] at hL; cases hL
    · rw [if_neg (by simp; omega)]
      cases hL : likeL xs ys with
      | true => exact absurd (likeL_len hL) hl
      | false => rfl
  cases s with
  | true =>
    have := key (.tup xs) (.tup ys) (.int 4) rfl rfl rfl
    have h3 : r_like (k + 1) [.tup xs, .tup ys] = (b_like (r_like k) [.frz (.tup xs), .frz (.tup ys), .no, .no, .no]).bind (fun | .nx _ => .ret .non | .rt d => .ret d | _ => .bad) := by kernel_rfl
    have h2 : b_like (r_like k) [.frz (.tup xs), .frz (.tup ys), .no, .no, .no] = (((eAnd (e2 eqD (eCall lenD (aCons (eVar 0) aNil)) (eCall lenD (aCons (eVar 1) aNil))) (e2 eqD (eComp (iArg zipD (aCons (eVar 0) (aCons (eVar 1) aNil))) [3, 4] (sTup [3, 4]) (tNot (tB (eFn 2 (r_like k) (aCons (eVar 3) (aCons (eVar 4) aNil))))) (eC (.int 1))) (eLst aNil)))
        [.frz (.tup xs), .frz (.tup ys), .frz (.int 4), .no, .no]).bind (fun d => .ret (Fl.rt d))).bind (fun | .nx e => (sRet (e2 eqD (eVar 0) (eVar 1))) e | f => .ret f) := by kernel_rfl
    refine Eq.trans (by kernel_rfl) (h3.trans ?_)
    rw [h2, this]
    kernel_rfl
  | false =>
    have := key (.lst xs) (.lst ys) (.int 5) rfl rfl rfl
    have h3 : r_like (k + 1) [.lst xs, .lst ys] = (b_like (r_like k) [.frz (.lst xs), .frz (.lst ys), .no, .no, .no]).bind (fun | .nx _ => .ret .non | .rt d => .ret d | _ => .bad) := by kernel_rfl
    have h2 : b_like (r_like k) [.frz (.lst xs), .frz (.lst ys), .no, .no, .no] = (((eAnd (e2 eqD (eCall lenD (aCons (eVar 0) aNil)) (eCall lenD (aCons (eVar 1) aNil))) (e2 eqD (eComp (iArg zipD (aCons (eVar 0) (aCons (eVar 1) aNil))) [3, 4] (sTup [3, 4]) (tNot (tB (eFn 2 (r_like k) (aCons (eVar 3) (aCons (eVar 4) aNil))))) (eC (.int 1))) (eLst aNil)))
        [.frz (.lst xs), .frz (.lst ys), .frz (.int 5), .no, .no]).bind (fun d => .ret (Fl.rt d))).bind (fun | .nx e => (sRet (e2 eqD (eVar 0) (eVar 1))) e | f => .ret f) := by kernel_rfl
    refine Eq.trans (by kernel_rfl) (h3.trans ?_)
    rw [h2, this]
    kernel_rfl
theorem like_eq : ∀ (k : Nat) {x y : D}, x.okN k = true → y.okN k = true → r_like (k + 1) [x, y] = .ret (.bl (likeB x y))
  | k, x, y, hx, hy => by
    cases x with
    | lst xs =>
      cases y with
      | lst ys =>
        cases k with
        | zero => simp [D.okN] at hx
        | succ k =>
          simp only [D.okN] at hx hy
          exact like_seq (s := false) fun a b ha hb => like_eq k (okNL_mem hx ha) (okNL_mem hy hb)
      | dic => simp [D.okN] at hy
      | cup => simp [D.okN] at hy
      | fn => simp [D.okN] at hy
      | ty => simp [D.okN] at hy
      | _ => kernel_rfl
    | tup xs =>
      cases y with
      | tup ys =>
        cases k with
        | zero => simp [D.okN] at hx
        | succ k =>
          simp only [D.okN] at hx hy
          exact like_seq (s := true) fun a b ha hb => like_eq k (okNL_mem hx ha) (okNL_mem hy hb)
      | dic => simp [D.okN] at hy
      | cup => simp [D.okN] at hy
      | fn => simp [D.okN] at hy
      | ty => simp [D.okN] at hy
      | _ => kernel_rfl
    | dic => simp [D.okN] at hx
    | cup => simp [D.okN] at hx
    | fn => simp [D.okN] at hx
    | ty => simp [D.okN] at hx
    | _ =>
      cases y with
      | dic => simp [D.okN] at hy
      | cup => simp [D.okN] at hy
      | fn => simp [D.okN] at hy
      | ty => simp [D.okN] at hy
      | _ => kernel_rfl
/-- `wp` behind a head that nothing unfolds -/
structure G {α : Type} (t : T α) (Q : α → Prop) (E : Ex → Prop) : Prop where
  of ::
  h : t.wp Q E
section
variable {Q : Fl → Prop} {E : Ex → Prop} {env : Env} {a b : Env → T Fl}
theorem g_go {e' : Env} (h1 : a env = .ret (.nx e')) (h2 : G (b e') Q E) : G (sSeq a b env) Q E := ⟨seq_go h1 h2.h⟩
theorem g_of {α : Type} {t : T α} {a : α} {Q : α → Prop} {E : Ex → Prop} (h : t = .ret a) (q : Q a) : G t Q E := ⟨wp_of h q⟩
theorem g_for {tgt : D → Env → Option Env} {body : Env → T Fl} {it : Env → T (List D)} {ds : List D} (h1 : it env = .ret ds) (I : Env → Prop) (h0 : I env)
    (ht : ∀ d ∈ ds, ∀ e, I e → ∃ e', tgt d e = some e' ∧ G (body e') (fun | .nx e => I e | .ct e => I e | .bk e => (b e).wp Q E | .rt v => Q (.rt v)) E) (hd : ∀ e, I e → G (b e) Q E) : G (sSeq (sFor it tgt body) b env) Q E :=
  ⟨seq_for h1 I h0 (fun d hd e he => let ⟨e', h1, h2⟩ := ht d hd e he; ⟨e', h1, h2.h⟩) fun e he => (hd e he).h⟩
theorem g_eq {t : T Fl} (h : a env = t) (h2 : G (t.bind fun fl => match fl with | .nx e => b e | f => .ret f) Q E) : G (sSeq a b env) Q E := by
  subst h
  exact h2
end
end MM

namespace MM
open PySem PySem.Spec L2

/-! ### classes of exceptions -/
/-- what is known of the classes: all of them own, over ValueError -/
def ClsAt (K : PySem.W.Frag) (mg : Str → Option Value) (x : Str) : Prop := ∃ C, mg x = some (.ref C) ∧ PySem.W.excIn K C PySem.HandSPX.veTail "ValueError.__new__" = true ∧ PySem.W.keepIn K (.ref C) = true ∧
  PySem.W.subIn K (.ref C) (.type "BaseException") = some true ∧ PySem.W.typeIn K (.ref C) = some (.type "type")
/-- x is a y -/
def SubAt (K : PySem.W.Frag) (mg : Str → Option Value) (sub : Str → Str → Option Bool) : Prop := ∀ x y b, sub x y = some b → ∃ u v, mg x = some u ∧ mg y = some v ∧ PySem.W.exmOne K u v = some b
section
variable {X : Cx} {tb : Tb} {W : WX} {pos : Pos}
/-! ### raise -/
def sRaise (x : Str) : Env → T Fl := fun _ => .exc ⟨x, none⟩
theorem qs_raise {x m : Str} {j : Nat} {p p2 p3 : Pos} (c : ClsAt X.K X.mg x) (hc : X.calm = true) (tk : Takes X W) (hg : Gl X x := by rfl) (hdb : (x == ("__debug__" : Str)) = false := by decide) :
    QS X tb W (.Raise (some (.Call (.Name x p) [.Constant (.str m) j p2] [] p3)) none pos) (sRaise x) := by
  obtain ⟨C, g, e, k, b, t⟩ := c
  refine ⟨_, ps_raise hc tk (pmk_own PySem.F.excBase_ValueError e g k (raises_own b t) hg hdb), fun g' σ env H Dn E hw => ?_⟩
  exact hw (.ref C) none σ env H E .refl ⟨g, trivial⟩

/-! ### try -/
namespace T
def catch_ {α : Type} (h : Ex → T α) : T α → T α
  | .ret a => .ret a
  | .exc e => h e
  | .bad => .bad
  | .draw n k => .draw n fun i => (k i).catch_ h
theorem wp_catch {α : Type} {h : Ex → T α} {Q : α → Prop} {E : Ex → Prop} : ∀ {t : T α}, (t.catch_ h).wp Q E → t.wp Q (fun x => (h x).wp Q E)
  | .ret _, q => q
  | .exc _, q => q
  | .bad, q => q
  | .draw _ _, q => ⟨q.1, fun i hi => wp_catch (q.2 i hi)⟩
end T
def noE (env : Env) : Env := env.map fun _ => Sl.no
/-- the clauses: a class, its suite -/
def hand (sub : Str → Str → Option Bool) : List (Str × (Env → T Fl)) → Env → Ex → T Fl
  | [], _, x => .exc x
  | (c, f) :: r, env, x => match sub x.cls c with
    | none => .bad
    | some true => (f (noE env)).noX
    | some false => hand sub r env x
def sTry (sub : Str → Str → Option Bool) (f : Env → T Fl) (hs : List (Str × (Env → T Fl))) : Env → T Fl := fun env => (f env).catch_ (hand sub hs env)
theorem ER.forget {p : Pg} {g : Gh} {σ σ' : St} {env : Env} {H : Hp} (E : ER p g σ env H) (hl : σ'.length = σ.length) : ER p g σ' (noE env) H := by
  have nos : ∀ i s, (noE env)[i]? = some s → s = Sl.no := fun i s h => by
    unfold noE at h
    rw [List.getElem?_map] at h
    cases e : env[i]? with
    | none => rw [e] at h; cases h
    | some x => rw [e] at h; cases h; rfl
  have noown : ∀ i a, ¬ OwnAt σ' (noE env) i a := fun i a ⟨⟨d, h⟩, _⟩ => by cases nos _ _ h
  refine ⟨by unfold noE; rw [hl, E.len, List.length_map], E.keep, E.dom, E.cup, E.tabs, E.n0, fun i s h => ?_, fun i j a h => (noown i a h).elim, fun i a h => (noown i a h).elim, E.th⟩
  cases nos _ _ h
  trivial
theorem nn_forget {g : Gh} {σ' : St} {env : Env} {a : Addr} (h : Nn g σ' (noE env) a) : g.N0 a := by
  rcases h with h | ⟨i, ⟨d, h⟩, _⟩
  · exact h
  · unfold noE at h
    rw [List.getElem?_map] at h
    cases e : env[i]? with
    | none => rw [e] at h; cases h
    | some x => rw [e] at h; cases h
theorem SStep.forget {g : Gh} {σ σ' : St} {env : Env} {H : Hp} : SStep g σ env H σ' (noE env) H := .sub fun b _ z => .inl (nn_forget z)

def lenS (n : Nat) (t : TS) : TS := fun Dn σ H => σ.length = n → t Dn σ H
theorem pss_len {st : List Stmt} {t : TS} (h : PSs X st t) : PSs X st (lenS X.N.length t) := ⟨fun pins s σ H Dn I q => h.run pins s σ H Dn I (q I.len)⟩
theorem ps_len {st : Stmt} {t : TS} (h : PS X st t) : PS X st (lenS X.N.length t) := ⟨fun pins s σ H Dn I q => h.run pins s σ H Dn I (q I.len)⟩
theorem vo_no {n i : Nat} {s : Sl} (h : (List.replicate n Sl.no)[i]? = some s) : s = Sl.no := by
  rw [List.getElem?_replicate] at h
  split at h <;> cases h
  rfl
theorem ER.void {p : Pg} {g : Gh} {σ σ' : St} {env : Env} {H : Hp} (E : ER p g σ env H) : ER p g σ' (List.replicate σ'.length Sl.no) H := by
  have noown : ∀ i a, ¬ OwnAt σ' (List.replicate σ'.length Sl.no) i a := fun i a ⟨⟨d, h⟩, _⟩ => by cases vo_no h
  refine ⟨by simp, E.keep, E.dom, E.cup, E.tabs, E.n0, fun i s h => ?_, fun i j a h => (noown i a h).elim, fun i a h => (noown i a h).elim, E.th⟩
  cases vo_no h
  trivial
theorem SStep.void {g : Gh} {σ σ' : St} {env : Env} {H : Hp} {n : Nat} : SStep g σ env H σ' (List.replicate n Sl.no) H := .sub fun b _ z => by
  rcases z with z | ⟨i, ⟨d, h⟩, _⟩
  · exact .inl z
  · cases vo_no h
/-- what a body of statements is read as -/
def rdS (p : Pg) (W : WX) (f : Env → T Fl) : TS := fun Dn σ H => ∃ g env, ER p g σ env H ∧ (f env).wp (FlP p g σ env H Dn) (XPs p g σ env H W)
theorem QB.pss {st : List Stmt} {f : Env → T Fl} (h : QB X tb W st f) : PSs X st (rdS (pgOf X tb) W f) := by
  obtain ⟨t, h1, h2⟩ := h.ex
  exact ⟨fun pins s σ H Dn I ⟨g, env, E, hw⟩ => h1.run pins s σ H Dn I (h2 g σ env H Dn E hw)⟩
inductive QHs (X : Cx) (tb : Tb) : List ExceptHandler → List (Str × (Env → T Fl)) → Prop
  | nil : QHs X tb [] []
  | cons {x : Str} {f : Env → T Fl} {b₀ : Stmt} {suite : List Stmt} {np pos' : Pos} {hds : List ExceptHandler} {l : List (Str × (Env → T Fl))} (hg : Gl X x) (hd : (x == ("__debug__" : Str)) = false)
      (hsu : ∀ (a : Addr) (pn : List (Addr × Obj)), QB (X.suite a pn) tb (fun _ _ _ _ => False) (b₀ :: suite) f) (r : QHs X tb hds l) :
      QHs X tb (.ExceptHandler (some (.Name x np)) none (b₀ :: suite) pos' :: hds) ((x, f) :: l)
/-- the clauses in the layer's words, where every class is there -/
theorem QHs.ok {K : PySem.W.Frag} {sub : Str → Str → Option Bool} (hX : X.K = K) : ∀ {hds : List ExceptHandler} {l : List (Str × (Env → T Fl))}, QHs X tb hds l → (∀ q ∈ l, ∃ v, X.mg q.1 = some v) →
    ∃ L : List (Value × (Addr → Value → Option Addr → TS)), HdsOk X hds L ∧ L.map (·.1) = l.map (fun q => (X.mg q.1).getD .none) ∧ L.map (·.2) = l.map (fun q _ _ _ => lenS X.N.length (rdS (pgOf X tb) (fun _ _ _ _ => False) q.2)) := by
  intro hds l h hm
  induction h with
  | nil => exact ⟨[], .nil, rfl, rfl⟩
  | @cons x f b₀ suite np pos' hds l hg hd hsu r ih =>
    obtain ⟨v, hv⟩ := hm _ List.mem_cons_self
    obtain ⟨L, h1, h2, h3⟩ := ih fun q hq => hm q (List.mem_cons_of_mem _ hq)
    refine ⟨(v, fun _ _ _ => lenS X.N.length (rdS (pgOf X tb) (fun _ _ _ _ => False) f)) :: L, .cons (ts := fun _ _ _ => lenS X.N.length (rdS (pgOf X tb) (fun _ _ _ _ => False) f)) ⟨hg, hd, .inl hv⟩ (fun a oe cls d pn _ _ => pss_len (hsu a _).pss) h1, ?_, ?_⟩
    · simp only [List.map_cons, h2, hv, Option.getD_some]
    · simp only [List.map_cons, h3]
theorem wMany_of {sub : Str → Str → Option Bool} {Dn : Ends} {cls : Value} {dx : Option Addr} {x : Ex} {g : Gh} {σ σ' : St} {env env' : Env} {H H' : Hp} (hs : SubAt X.K X.mg sub) (E' : ER (pgOf X tb) g σ' env' H') (s : SStep g σ env H σ' env' H') (hl : env.length = X.N.length)
    (hx : ExR (pgOf X tb) g.C H' x cls dx) : ∀ (l : List (Str × (Env → T Fl))) (L : List (Value × (Addr → Value → Option Addr → TS))), L.map (·.1) = l.map (fun q => (X.mg q.1).getD .none) → L.map (·.2) = l.map (fun q _ _ _ => lenS X.N.length (rdS (pgOf X tb) (fun _ _ _ _ => False) q.2)) →
    (hand sub l env x).wp (FlP (pgOf X tb) g σ env H Dn) (XPs (pgOf X tb) g σ env H W) → wMany X.K W Dn L cls dx σ' H'
  | [], [], _, _, hw => hw cls dx σ' env' H' E' s hx
  | (c, f) :: r, [], h, _, _ => by simp at h
  | [], _ :: _, h, _, _ => by simp at h
  | (c, f) :: r, (v, ts) :: L, h1, h2, hw => by
    simp only [List.map_cons, List.cons.injEq] at h1 h2
    obtain ⟨e1, h1⟩ := h1
    obtain ⟨e2, h2⟩ := h2
    subst e2
    unfold hand at hw
    cases hq : sub x.cls c with
    | none => rw [hq] at hw; exact hw.elim
    | some b =>
      rw [hq] at hw
      obtain ⟨u, v', m1, m2, ex⟩ := hs _ _ _ hq
      rw [m2, Option.getD_some] at e1
      subst e1
      have hu : cls = u := by
        have h := hx.1
        exact Option.some.inj (h.symm.trans m1)
      subst hu
      refine ⟨b, ex, fun hb a _ => ?_, fun hb => ?_⟩
      · subst hb
        intro hl'
        have hl2 : env.length = env'.length := by rw [hl, ← hl', E'.len]
        have ne : noE env = noE env' := by
          unfold noE
          rw [List.map_const', List.map_const', hl2]
        refine ⟨g, noE env', E'.forget rfl, ?_⟩
        rw [← ne]
        refine T.wp_mono (fun fl q => ?_) (fun _ z => z.elim) (T.wp_noX (E' := fun _ => False) hw)
        have ss : SStep g σ env H σ' (noE env) H' := by
          rw [ne]
          exact s.trans .forget
        cases fl with
        | nx e' => exact fun σ2 H2 E2 s2 => q σ2 H2 E2 (ss.trans s2)
        | bk e' => exact fun σ2 H2 E2 s2 => q σ2 H2 E2 (ss.trans s2)
        | ct e' => exact fun σ2 H2 E2 s2 => q σ2 H2 E2 (ss.trans s2)
        | rt d => exact fun v σ2 e' H2 E2 s2 r2 => q v σ2 e' H2 E2 (ss.trans s2) r2
      · subst hb
        exact wMany_of hs E' s hl hx r L h1 h2 hw
theorem qs_try {sub : Str → Str → Option Bool} {body : List Stmt} {h₀ : ExceptHandler} {hds : List ExceptHandler} {fb : Env → T Fl} {l : List (Str × (Env → T Fl))} (hs : SubAt X.K X.mg sub) (tk : Takes X W) (hm : ∀ q ∈ l, ∃ v, X.mg q.1 = some v)
    (hb : ∀ (W : WX) (pn : List (Addr × Obj)) (xe : Value → Shared → Prop), Takes (X.tr pn xe) W → QB (X.tr pn xe) tb W body fb) (hh : QHs X tb (h₀ :: hds) l) (h1 : X.stack = X.env :: X.outer := by rfl) (h2 : X.env.frame = some X.env.locals := by rfl) :
    QS X tb W (.Try body (h₀ :: hds) [] [] pos) (sTry sub fb l) := by
  obtain ⟨L, o, e1, e2⟩ := hh.ok (K := X.K) (sub := sub) rfl hm
  refine ⟨_, ps_len (ps_try_many (tb := fun W => rdS (pgOf X tb) W fb) h1 h2 tk (fun W pn xe tk _ => (hb W pn xe tk).pss) o), fun g σ env H Dn E hw hl => ?_⟩
  unfold sTry at hw
  refine ⟨g, env, E, T.wp_mono (fun _ q => q) (fun x q => ?_) (T.wp_catch hw)⟩
  intro cls dx σ' env' H' E' s hx
  exact wMany_of hs E' s (by rw [← E.len, hl]) hx l L e1 e2 q
end
end MM

namespace MM
open PySem PySem.Spec L2

/-! ### without thunks -/
mutual
def D.noF : D → Bool
  | .lst xs => noFL xs
  | .tup xs => noFL xs
  | .dic _ => false
  | .fn _ => false
  | _ => true
def noFL : List D → Bool
  | [] => true
  | d :: ds => d.noF && noFL ds
end
section
variable {K : PySem.W.Frag} {mg : Str → Option Value} {tb tb' : Tb} {C N : Addr → Prop} {H : Hp}
mutual
theorem Rep.un : ∀ {d : D} {v : V}, d.noF = true → Rep ⟨K, mg, tb⟩ C H N d v → Rep ⟨K, mg, tb'⟩ C H N d v
  | .non, _, _, h => h
  | .bl _, _, _, h => h
  | .int _, _, _, h => h
  | .str _, _, _, h => h
  | .cup, _, _, h => h
  | .ty _, _, _, h => h
  | .fn _, _, n, _ => by cases n
  | .dic _, _, n, _ => by cases n
  | .lst xs, v, n, h => by
    simp only [Rep] at h ⊢
    obtain ⟨a, vs, e, na, s, l, r⟩ := h
    exact ⟨a, vs, e, na, s, l, RepL.un n r⟩
  | .tup xs, v, n, h => by
    simp only [Rep] at h ⊢
    obtain ⟨a, vs, e, s, l, r⟩ := h
    exact ⟨a, vs, e, s, l, RepL.un n r⟩
theorem RepL.un : ∀ {ds : List D} {vs : List V}, noFL ds = true → RepL ⟨K, mg, tb⟩ C H N ds vs → RepL ⟨K, mg, tb'⟩ C H N ds vs
  | [], _, _, h => h
  | d :: ds, vs, n, h => by
    simp only [noFL, Bool.and_eq_true] at n
    simp only [RepL] at h ⊢
    obtain ⟨v, ws, e, r, q⟩ := h
    exact ⟨v, ws, e, Rep.un n.1 r, RepL.un n.2 q⟩
end
mutual
theorem Rep.th {l : List (Addr × Str)} : ∀ {d : D} {v : V}, Rep ⟨K, mg, tb0 l⟩ C H N d v → Rep ⟨K, mg, tb'⟩ C H N d v
  | .non, _, h => h
  | .bl _, _, h => h
  | .int _, _, h => h
  | .str _, _, h => h
  | .cup, _, h => h
  | .ty _, _, h => h
  | .fn _, _, h => by
    simp only [Rep] at h ⊢
    obtain ⟨f, e, q | ⟨_, t, z, _⟩⟩ := h
    · exact ⟨f, e, .inl q⟩
    · cases z
  | .dic kvs, v, h => by
    simp only [Rep] at h ⊢
    obtain ⟨a, kws, e, n, s, l, r⟩ := h
    exact ⟨a, kws, e, n, s, l, RepK.th r⟩
  | .lst xs, v, h => by
    simp only [Rep] at h ⊢
    obtain ⟨a, vs, e, na, s, l, r⟩ := h
    exact ⟨a, vs, e, na, s, l, RepL.th r⟩
  | .tup xs, v, h => by
    simp only [Rep] at h ⊢
    obtain ⟨a, vs, e, s, l, r⟩ := h
    exact ⟨a, vs, e, s, l, RepL.th r⟩
theorem RepL.th {l : List (Addr × Str)} : ∀ {ds : List D} {vs : List V}, RepL ⟨K, mg, tb0 l⟩ C H N ds vs → RepL ⟨K, mg, tb'⟩ C H N ds vs
  | [], _, h => h
  | d :: ds, vs, h => by
    simp only [RepL] at h ⊢
    obtain ⟨v, ws, e, r, q⟩ := h
    exact ⟨v, ws, e, Rep.th r, RepL.th q⟩
theorem RepK.th {l : List (Addr × Str)} : ∀ {ds : List (D × D)} {vs : List (Key × V)}, RepK ⟨K, mg, tb0 l⟩ C H N ds vs → RepK ⟨K, mg, tb'⟩ C H N ds vs
  | [], _, h => h
  | (k, d) :: ds, vs, h => by
    simp only [RepK] at h ⊢
    obtain ⟨kk, v, ws, e, r, r2, q⟩ := h
    exact ⟨kk, v, ws, e, Rep.th r, Rep.th r2, RepK.th q⟩
end
theorem Step.retb {H H' : Hp} (s : Step ⟨K, mg, tb⟩ C H H') (hl : tb.l = tb'.l := by rfl) : Step ⟨K, mg, tb'⟩ C H H' := ⟨s.grow, s.cup, by have t := s.tabs; rw [show (Pg.mk K mg tb).tb.l = tb'.l from hl] at t; exact t, s.dom⟩
theorem ExR.th {l : List (Addr × Str)} {x : Ex} {cls : Value} {dx : Option Addr} (h : ExR ⟨K, mg, tb0 l⟩ C H x cls dx) : ExR ⟨K, mg, tb'⟩ C H x cls dx := by
  obtain ⟨h1, h2⟩ := h
  refine ⟨h1, ?_⟩
  cases hx : x.fld with
  | none => trivial
  | some fd =>
    rw [hx] at h2
    obtain ⟨a, fs, v, e1, e2, e3, r⟩ := h2
    exact ⟨a, fs, v, e1, e2, e3, r.th⟩
end

/-! ### the thunk is called: a statement -/
def sThk (m : T D) : Env → T Fl := fun env => match env with
  | .frz (.fn []) :: _ => m.bind fun _ => .ret (.nx env)
  | _ => .bad
/-- the def that got the thunk m in its first slot, in the context X -/
structure Act (X : Cx) (tb : Tb) (a : Str) (m : T D) : Prop where
  st : ∀ (W : WX) (pn : List (Addr × Obj)) (xe : Value → Shared → Prop), Takes (X.tr pn xe) W → ∀ p1 p2 p3, QS (X.tr pn xe) tb W (.Expr (.Call (.Name a p1) [] [] p2) p3) (sThk m)
/-- what a thunk does, told by a predicate -/
def ThkP (K : PySem.W.Frag) (mg : Str → Option Value) (l : List (Addr × Str)) (C : Addr → Prop) (H : Hp) (m : T D) (tl : XK → Hp → VK → Prop) : Prop :=
  ∀ (HZ : Hp) (E : XK) (Q : VK), Step ⟨K, mg, tb0 l⟩ C H HZ → m.wp (fun _ => ∀ v H', Step ⟨K, mg, tb0 l⟩ C HZ H' → Q v H') (fun x => ∀ cls dx H', Step ⟨K, mg, tb0 l⟩ C HZ H' → ExR ⟨K, mg, tb0 l⟩ C H' x cls dx → E cls dx H') → tl E HZ Q
theorem act_of {X : Cx} {l : List (Addr × Str)} {a q : Str} {f c' : Addr} {C : Addr → Prop} {H : Hp} {m : T D} {tl : XK → Hp → VK → Prop} (hc : H c' = some (LamX.CodeO c' q)) (hcup : ∀ a, C a → CupAt H a) (ht : ThkP X.K X.mg l C H m tl)
    (act : ∀ (W : WX) (pn : List (Addr × Obj)) (xe : Value → Shared → Prop) (E : XK) (p1 p2 : Pos), Takes (X.tr pn xe) W → (∀ cls d σ' H', E cls d H' → W cls d σ' H') →
      PE (X.tr pn xe) (.Call (.Name a p1) [] [] p2) (fun σZ HZ Q => σZ[0]? = some (some (.ref f)) ∧ HZ c' = some (LamX.CodeO c' q) ∧ tl E HZ Q)) : Act X ⟨l, some ⟨f, C, H⟩⟩ a m := by
  refine ⟨fun W pn xe tk p1 p2 p3 => ?_⟩
  have hp : PE (X.tr pn xe) (.Call (.Name a p1) [] [] p2) (fun σZ HZ Q => ∃ E : XK, (∀ cls d σ' H', E cls d H' → W cls d σ' H') ∧ σZ[0]? = some (some (.ref f)) ∧ HZ c' = some (LamX.CodeO c' q) ∧ tl E HZ Q) :=
    ⟨fun pins s σ H' Q I ⟨E, hE, h⟩ => (act W pn xe E p1 p2 tk hE).run pins s σ H' Q I h⟩
  refine ⟨_, ps_expr hp, fun g σ env HZ Dn E hw => ?_⟩
  obtain ⟨eC, eH⟩ := E.th _ rfl
  have st0 : Step (pgOf X ⟨l, some ⟨f, C, H⟩⟩) C H HZ := by
    have := E.out
    rw [eC, eH] at this
    exact this
  have st : Step ⟨X.K, X.mg, tb0 l⟩ C H HZ := st0.retb
  unfold sThk at hw
  split at hw
  · rename_i env' r
    rw [T.wp_bind] at hw
    obtain ⟨v, hv, rv⟩ := E.slot 0 _ (by rfl)
    simp only [Rep] at rv
    obtain ⟨f', rfl, hf⟩ := rv
    have ef : f' = f := by
      rcases hf with ⟨hf, _⟩ | ⟨_, t, z, e⟩
      · exact (hf rfl).elim
      · cases z
        exact e.symm
    subst ef
    have hcZ : HZ c' = some (LamX.CodeO c' q) := by
      refine st.grow _ _ hc (fun z => ?_) LamX.codeO_ne
      obtain ⟨x, y, e, _⟩ := hcup c' z
      rw [hc] at e
      unfold LamX.CodeO at e
      cases e
    refine ⟨fun cls d H' => ∀ σ', W cls d σ' H', fun cls d σ' H' z => z σ', hv, hcZ, ht HZ _ _ st (T.wp_mono (fun d q v H' s => ?_) (fun x q cls dx H' s hx σ' => ?_) hw)⟩
    · have s' : Step (pgOf X ⟨l, some ⟨f', C, H⟩⟩) g.C HZ H' := by rw [eC]; exact s.retb
      exact q σ H' (E.step s') (s'.s E)
    · have s' : Step (pgOf X ⟨l, some ⟨f', C, H⟩⟩) g.C HZ H' := by rw [eC]; exact s.retb
      have E' := E.step s'
      exact q cls dx σ' _ H' E'.void ((s'.s E).trans .void) (by rw [eC]; exact hx.th)
  · exact hw.elim
end MM

namespace MM
open PySem PySem.Spec L2

/-! ### a def that is handed a thunk -/
def startT (n : Nat) : Env := .frz (.fn []) :: List.replicate (n - 1) .no
def runT (n : Nat) (bh : T D → Env → T Fl) (m : T D) : T D := (bh m (startT n)).noX.bind fun
  | .nx _ => .ret .non
  | .rt d => if d.noF then .ret d else .bad
  | _ => .bad
def TTm (K : PySem.W.Frag) (mg : Str → Option Value) (l : List (Addr × Str)) (mh : T D → T D) : (XK → Hp → VK → Prop) → Hp → VK → Prop := fun tl H Q => ∃ (N0 C : Addr → Prop) (m : T D), (∀ a, C a → N0 a) ∧ (∀ a, C a → CupAt H a) ∧ (∀ a, N0 a → Ob H a) ∧ LamX.Tabs l H ∧ ThkP K mg l C H m tl ∧
  (mh m).wp (fun d => ∀ v H', Step ⟨K, mg, tb0 l⟩ C H H' → Rep ⟨K, mg, tb0 l⟩ C H' N0 d v → Q v H') (fun _ => False)
theorem er_startT {p : Pg} {N : List Str} {N0 C : Addr → Prop} {H : Hp} {f : Addr} (hC : ∀ a, C a → N0 a) (hl : 0 < N.length) (hcup : ∀ a, C a → CupAt H a) (hn0 : ∀ a, N0 a → Ob H a) (tabs : LamX.Tabs p.tb.l H) (hth : p.tb.th = some ⟨f, C, H⟩) :
    ER p ⟨H, N0, C, hC⟩ (L2.start N [.ref f]) (startT N.length) H ∧ Nn ⟨H, N0, C, hC⟩ (L2.start N [.ref f]) (startT N.length) = N0 := by
  have get : ∀ {i s}, (startT N.length)[i]? = some s → (i = 0 ∧ s = .frz (.fn [])) ∨ s = .no := fun {i s} h => by
    unfold startT at h
    cases i with
    | zero => exact .inl ⟨rfl, by simpa using h.symm⟩
    | succ i => exact .inr (vo_no (by simpa using h))
  have noown : ∀ i a, ¬ OwnAt (L2.start N [.ref f]) (startT N.length) i a := fun i a ⟨⟨d, h⟩, _⟩ => by
    rcases get h with ⟨_, z⟩ | z <;> cases z
  have hN : Nn ⟨H, N0, C, hC⟩ (L2.start N [.ref f]) (startT N.length) = N0 := by
    funext a
    apply propext
    constructor
    · rintro (h | ⟨i, h⟩)
      · exact h
      · exact (noown i a h).elim
    · exact fun h => .inl h
  refine ⟨⟨?_, fun b o h _ _ => h, fun b h => h, hcup, tabs, hn0, fun i s hs => ?_, fun i j a h => (noown i a h).elim, fun i a h => (noown i a h).elim, fun t z => ?_⟩, hN⟩
  · unfold L2.start startT
    simp
  · rcases get hs with ⟨rfl, rfl⟩ | rfl
    · refine ⟨.ref f, ?_, ?_⟩
      · unfold L2.start
        rfl
      · simp only [Rep]
        exact ⟨f, rfl, .inr ⟨trivial, _, hth, rfl⟩⟩
    · trivial
  · rw [hth] at z
    cases z
    exact ⟨rfl, rfl⟩
theorem gives_of {X : Cx} {l : List (Addr × Str)} {Ng : List Str} {x a q : Str} {sg : Scope} {g : Addr} {cdg : Value} {bg : List Stmt} {bh : T D → Env → T Fl} (hn : 0 < Ng.length)
    (hb : ∀ (f : Addr) (s : Shared) (H : Hp) (C : Addr → Prop) (m : T D), Act (cxOf C8.CX0 X.prog X.w X.K X.mg X.base Ng x sg g cdg X.A X.stack s H C8.E0) ⟨l, some ⟨f, C, H⟩⟩ a m →
      QB (cxOf C8.CX0 X.prog X.w X.K X.mg X.base Ng x sg g cdg X.A X.stack s H C8.E0).nox ⟨l, some ⟨f, C, H⟩⟩ (fun _ _ _ _ => False) bg (bh m)) :
    LamX.GivesTo X Ng x sg g cdg bg a q (TTm X.K X.mg l (runT Ng.length bh)) := by
  intro f c' s H Q tl act hc h
  obtain ⟨N0, C, m, hC, hcup, hn0, tabs, ht, hw⟩ := h
  have A := act_of (X := cxOf C8.CX0 X.prog X.w X.K X.mg X.base Ng x sg g cdg X.A X.stack s H C8.E0) hc hcup ht act
  obtain ⟨t, h1, h2⟩ := (hb f s H C m A).ex
  refine ⟨t, h1, ?_⟩
  obtain ⟨E, eN⟩ := er_startT (p := ⟨X.K, X.mg, ⟨l, some ⟨f, C, H⟩⟩⟩) (N := Ng) (f := f) hC hn hcup hn0 tabs rfl
  unfold runT at hw
  rw [T.wp_bind] at hw
  refine h2 _ _ _ _ _ E (T.wp_mono (fun fl q => ?_) (fun _ z => z.elim) (T.wp_noX (E' := fun _ => False) hw))
  cases fl with
  | nx e' =>
    intro σ' H' E' s'
    have st : Step ⟨X.K, X.mg, ⟨l, some ⟨f, C, H⟩⟩⟩ C H H' := E'.out
    exact q .non H' st.retb (by simp [Rep])
  | rt d =>
    intro v σ' e' H' E' s' r
    have st : Step ⟨X.K, X.mg, ⟨l, some ⟨f, C, H⟩⟩⟩ C H H' := E'.out
    dsimp only at q
    split at q
    · rename_i hd
      exact q v H' st.retb (Rep.un hd r)
    · exact q.elim
  | bk e' => exact q.elim
  | ct e' => exact q.elim
/-- a def to which lambdas are handed -/
def OkTh (K : PySem.W.Frag) (mg : Str → Option Value) (l : List (Addr × Str)) (x a : Str) (st : Stmt) (N : List Str) (mh : T D → T D) : Prop :=
  DefAt K mg x st [a] ∧ FnScope N [a] (defScope st) ∧ ∀ (X : Cx) (g : Addr) (cdg : Value) (q : Str), X.K = K → X.mg = mg → LamX.GivesTo X N x (defScope st) g cdg (defBody st) a q (TTm K mg l mh)
def eLam (mh : T D → T D) (fb : Env → T D) : Env → T D := fun env => (mh (fb env)).noX
theorem qe_lam {X : Cx} {l : List (Addr × Str)} {W : WX} {x a : Str} {st : Stmt} {N : List Str} {mh : T D → T D} {params : Arguments} {body : Expr} {scope : Scope} {c P : Addr} {k : Nat} {fb : Env → T D} {p lpos pos : Pos} (O : OkTh X.K X.mg l x a st N mh) (hr : Room (k + 2) X.A)
    (TB : LamX.TabB X.base X.mg c P) (hcode : X.env.code = .ref c) (hmT : (P, X.env.qual ++ "<lambda>") ∈ l) (hu : ∀ p ∈ l, p.1 = P → p.2 = X.env.qual ++ "<lambda>")
    (hbody : ∀ (A : Around) (outer : List PySem.Env) (s : Shared) (H : Hp) (E : XK) (f c' : Addr), Room k (A.deeper (LamX.lamEnv X scope s.heap.objs.size f c')) → QE (LamX.lamCx X A outer s H E scope f c') (tb0 l) (fun cls d _ H' => E cls d H') body fb)
    (hg : Gl X x := by rfl) (L : LamX.lamSB X.env.scope scope = true := by kernel_rfl) (hdef : defaultsOf params X.env = ([], []) := by rfl)
    (hbind : ∀ (q : Str) (cl : List (Str × Addr)) (pm cv ctv : Value), bindArgs (PySem.W.kla_fn "<lambda>" q params body scope cl pm cv ctv) ⟨[], []⟩ = pure [] := by intros; rfl)
    (hNg : N[0]? = some a := by rfl) (hva : Vis (defScope st) a := by first | exact Or.inl rfl | exact Or.inr (Or.inl rfl) | exact Or.inr (Or.inr rfl))
    (hdb : (x == ("__debug__" : Str)) = false := by decide) (hd : (a == ("__debug__" : Str)) = false := by decide) (hcd : (a == ("__classdict__" : Str)) = false := by decide) :
    QE X (tb0 l) W (.Call (.Name x p) [.Lambda params body scope lpos] [] pos) (eLam mh fb) := by
  obtain ⟨⟨f, fd, F, gf, b⟩, Sg, G⟩ := O
  have kp := F.kp
  obtain ⟨oc, od, kV, doc, pm, an, cdv, ct, osl, e, lk, hcd'⟩ := id F.ex
  subst e
  refine ⟨_, LamX.pe_lamcall (T := l) (TT := TTm X.K X.mg l mh) (t := fun E => rdE (pgOf X (tb0 l)) (fun cls d _ H' => E cls d H') fb) hg gf kp lk hcd' b Sg hNg hva (G X f cdv _ rfl rfl) TB hcode hmT hu hr (LamX.lamS_by L) hdef hbind
    (fun A outer s H E f c' hr => (hbody A outer s H E f c' hr).pe) hdb hd hcd, fun g σ env H Q E hw => ?_⟩
  unfold eLam at hw
  refine ⟨E.tabs, fun H1 eN T1 => ?_⟩
  have s1 : Step (pgOf X (tb0 l)) g.C H H1 := ⟨fun b o h _ n => eN b o h n, fun a c => by
    obtain ⟨x, y, e, q⟩ := E.cup a c
    exact ⟨x, y, eN _ _ e (fun _ => by simp), q⟩, T1, fun b ⟨o, e, t⟩ => ⟨o, eN b o e t, t⟩⟩
  have E1 := E.step s1
  refine ⟨Nn g σ env, g.C, fb env, E1.nC, E1.cup, fun a z => E1.there z, T1, fun HZ E' Q' s2 hm => ?_, T.wp_mono (fun d q v H' s r => q v H' (s1.trans s) r) (fun _ z => z.elim) (T.wp_noX (E' := fun _ => False) hw)⟩
  exact ⟨g, env, E1.step s2, T.wp_mono (fun d q v H' s _ => q v H' s) (fun x q => q) hm⟩
end MM

namespace MM
open PySem PySem.Spec L2

/-! ### a call of a local that holds a def -/
abbrev Disp := List (List Nat × Nat × (List D → T D))
def findDp : Disp → List Nat → Option (Nat × (List D → T D))
  | [], _ => none
  | (x, r) :: q, y => if eqNats x y then some r else findDp q y
def eLoc (i : Nat) (dp : Disp) (fa : Env → T (List D)) : Env → T D := fun env => match env[i]? with
  | some (.frz (.fn y)) => (match findDp dp y with
    | some r => (fa env).bind fun xs => if lenL xs = r.1 then r.2 xs else .bad
    | none => .bad)
  | _ => .bad
theorem findDp_mem {y : List Nat} {r : Nat × (List D → T D)} : ∀ {dp : Disp}, findDp dp y = some r → (y, r) ∈ dp
  | [], h => by cases h
  | (x, r') :: q, h => by
    unfold findDp at h
    rw [eqNats_eq] at h
    split at h
    · rename_i e
      have e := of_decide_eq_true e
      subst e
      cases h
      exact List.mem_cons_self
    · exact List.mem_cons_of_mem _ (findDp_mem h)
section
variable {X : Cx} {l : List (Addr × Str)} {E0 : XK} {pos : Pos}
theorem qe_callL (i : Nat) {k : Nat} {x : Str} {dp : Disp} {p : Pos} {e : Expr} {es : List Expr} {fa : Env → T (List D)} (hD : ∀ q ∈ dp, ∃ ps, OkF X.prog X.w X.K X.mg X.base l k q.2.1 (sl q.1) ps q.2.2) (hr : Room k X.A) (tk : Takes X (fun cls d _ H' => E0 cls d H'))
    (ha : QA X (tb0 l) (fun cls d _ H' => E0 cls d H') (e :: es) fa) (hN : X.N[i]? = some x := by rfl) (hv : Vis X.env.scope x := by first | exact Or.inl rfl | exact Or.inr (Or.inl rfl) | exact Or.inr (Or.inr rfl)) (hd : (x == ("__debug__" : Str)) = false := by decide)
    (hcd : (x == ("__classdict__" : Str)) = false := by decide) (he : starEach (e :: es) X.env = (false, eval e X.env) :: starEach es X.env := by rfl) (hpl : (backTo pos (starEach es X.env)).any (·.1) = false := by rfl) :
    QE X (tb0 l) (fun cls d _ H' => E0 cls d H') (.Call (.Name x p) (e :: es) [] pos) (eLoc i dp fa) := by
  obtain ⟨t, h1, h2⟩ := ha.ex
  refine ⟨fun σ H Q => ∃ q ∈ dp, ∃ f, X.mg (sl q.1) = some (.ref f) ∧ tCallL i f (SpM (pgOf X (tb0 l)) q.2.1 q.2.2) [] E0 t σ H Q, ⟨fun pins s σ H Q I ⟨q, hq, f, hf, h⟩ => ?_⟩, fun g σ env H Q E hw => ?_⟩
  · obtain ⟨ps, f', fd, g, kp, b, F⟩ := hD q hq
    rw [hf] at g
    cases g
    exact (pe_callL F hr hN hv kp b .nil (passes_call tk fun _ _ _ _ z => z) h1 hd hcd he hpl).run pins s σ H Q I h
  · unfold eLoc at hw
    split at hw
    · rename_i y he
      split at hw
      · rename_i r hr
        obtain ⟨v, hs, rv⟩ := E.slot i _ he
        simp only [Rep] at rv
        obtain ⟨f, rfl, hf⟩ := rv
        rcases hf with ⟨_, hf⟩ | ⟨_, t, z, _⟩
        · refine ⟨_, findDp_mem hr, f, hf, hs, ?_⟩
          rw [T.wp_bind] at hw
          refine h2 g σ env H _ E (T.wp_mono (fun xs q vs H1 s1 r1 => ?_) (fun _ z => z) hw)
          split at q
          · rename_i hl
            have E1 := E.step s1
            rw [lenL_eq] at hl
            rw [List.append_nil]
            exact ⟨Nn g σ env, g.C, xs, by rw [r1.length, hl], E1.nC, E1.cup, fun a z => E1.there z, E1.tabs, r1, T.wp_mono (fun d q v H' s r => q v H' (s1.trans s) r) (fun x h cls dx H' s r => h cls dx H' (s1.trans s) r) q⟩
          · exact q.elim
        · cases z
      · exact hw.elim
    · exact hw.elim
end
end MM

namespace MM
open PySem PySem.Spec L2

section
variable {X : Cx} {tb : Tb} {W : WX} {pos : Pos}
/-! ### methods that answer a value -/
def tyD : D → String
  | .str _ => "str"
  | .lst _ => "list"
  | _ => ""
def MRI (X : Cx) (tb : Tb) (r : V → List V → Hp → VK → Prop) (F : D → List D → Option D) : Prop := ∀ g σ env H (Q : VK) x xs vx vs d, ER (pgOf X tb) g σ env H → RepP (pgOf X tb) g.C H (Nn g σ env) x vx → RepPs (pgOf X tb) g.C H (Nn g σ env) xs vs → F x xs = some d →
  (∀ v H', Step (pgOf X tb) g.C H H' → Rep (pgOf X tb) g.C H' (Nn g σ env) d v → Q v H') → r vx vs H Q
def eMeth (T' : String) (F : D → List D → Option D) (fx : Env → T D) (fa : Env → T (List D)) : Env → T D := fun env => (fx env).bind fun x => if tyD x == T' then (fa env).bind fun xs => ofO (F x xs) else .bad
theorem qe_meth {T' : String} {name : Str} {id : String} {r : V → List V → Hp → VK → Prop} {F : D → List D → Option D} {o e : Expr} {es : List Expr} {fx : Env → T D} {fa : Env → T (List D)} {apos cpos : Pos} (pa : PlainAttrs T') (slot : Slot T' name id) (hty : typeOf (.builtin id) = pure (.type "method_descriptor")) (hm : MtR X id r)
    (hr : MRI X tb r F) (ho : QP X tb W o fx) (ha : QAP X tb W (e :: es) fa) (hT : T' = "str" ∨ T' = "list" := by decide)
    (hbase : attributeBase o name X.env (eval o X.env) = eval o X.env := by rfl)
    (hfew : ((backTo cpos (starEach (e :: es) X.env)).all (fun x => !x.1) && (backToKw cpos (keywordEach [] X.env)).all (fun x => x.1.isSome)
      && decide ((e :: es).length + ([] : List Keyword).length + (if ([] : List Keyword).isEmpty then 0 else 1) < 30)) = true := by rfl)
    (hline : (apos.endLine == cpos.line) = true := by rfl) (hs : starEach (e :: es) X.env = (false, eval e X.env) :: starEach es X.env := by rfl) (hplain : (backTo cpos (starEach es X.env)).any (·.1) = false := by rfl) :
    QE X tb W (.Call (.Attribute o name apos) (e :: es) [] cpos) (eMeth T' F fx fa) := by
  obtain ⟨t1, p1, i1⟩ := ho.ex
  obtain ⟨t2, p2, i2⟩ := ha.ex
  refine ⟨_, pe_bm pa slot hty hm p1 p2 hbase hfew hline hs hplain, fun g σ env H Q E hw => ?_⟩
  unfold eMeth at hw
  rw [T.wp_bind] at hw
  refine i1 g σ env H _ E (T.wp_mono (fun x q vx H1 s1 r1 => ?_) (fun _ z => z) hw)
  split at q
  · rename_i ht
    have ht : tyD x = T' := by simpa using ht
    refine ⟨?_, ?_⟩
    · cases x with
      | str s =>
        simp only [RepP, Rep] at r1
        rw [r1.1]
        exact ht.symm
      | lst xs =>
        obtain ⟨a, vs, rfl, _, ea, _, _⟩ := r1
        exact .inl ⟨ht.symm, vs, .of ea⟩
      | _ =>
        rcases hT with z | z <;> rw [z] at ht <;> exact absurd ht (by simp [tyD])
    · rw [T.wp_bind] at q
      have E1 := E.step s1
      refine i2 g σ env H1 _ E1 (T.wp_mono (fun xs q vs H2 s2 r2 => ?_) (wpStep s1) q)
      cases hF : F x xs with
      | none => rw [hF] at q; exact q.elim
      | some d => rw [hF] at q; exact hr g σ env H2 Q x xs vx vs d (E1.step s2) (r1.step E1 s2) r2 hF (wpDone (s1.trans s2) q)
  · exact q.elim
/-! ### split -/
def strsD (ys : List Str) : List D := ys.map fun s => .str s.cps.toList
def splitD : D → List D → Option D
  | .str a, [.str b] => if b.isEmpty = false ∧ a.length + 2 ≤ 16777216 ∧ ((Txt.split (sl a) (sl b)).all fun s => okS s.cps.toList) = true ∧ (Txt.split (sl a) (sl b)).length ≤ 16777216 then some (.lst (strsD (Txt.split (sl a) (sl b)))) else none
  | _, _ => none
theorem rep_strs {p : Pg} {C N : Addr → Prop} {H : Hp} : ∀ {ys : List Str}, (ys.all fun s => okS s.cps.toList) = true → RepL p C H N (strsD ys) (ys.map V.str)
  | [], _ => .nil
  | y :: ys, h => by
    simp only [List.all_cons, Bool.and_eq_true] at h
    obtain ⟨h1, h2⟩ := okS_iff h.1
    refine .cons ?_ (rep_strs h.2)
    have e : sl y.cps.toList = y := by simp [sl]
    have := repStr (p := p) (C := C) (H := H) (N := N) h1 h2
    rw [e] at this
    exact this
theorem mri_split : MRI X tb (fun x xs H Q => ∃ a b, x = .str a ∧ xs = [.str b] ∧ (b.length == 0) = false ∧ a.length + 2 ≤ sizeLine ∧ rNewStrs (Txt.split a b) H Q) splitD := fun g σ env H Q x xs vx vs d E rx rs e q => by
  unfold splitD at e
  split at e
  · rename_i a b
    split at e
    · rename_i hc
      obtain ⟨h1, h2, h3, h4⟩ := hc
      cases e
      obtain ⟨v, rfl, rb⟩ := rep1 rs
      simp only [RepP, Rep] at rx rb
      obtain ⟨rfl, _, _⟩ := rx
      obtain ⟨rfl, _, _⟩ := rb
      refine ⟨_, _, rfl, rfl, ?_, by rw [sl_len, size16]; exact h2, fun p hp => ?_⟩
      · rw [sl_len]
        cases b with
        | nil => cases h1
        | cons c b => rfl
      · have st := E.alloc (o := .lst ((Txt.split (sl a) (sl b)).map V.str)) hp
        refine q (.ref p) _ st ?_
        simp only [Rep]
        exact ⟨p, _, rfl, fun z => nOb hp (E.there z), upd_same, by simp only [strsD, List.length_map]; rw [size16]; exact h4, rep_strs h3⟩
    · cases e
  · cases e
theorem qe_split {o e : Expr} {fx f : Env → T D} {apos cpos : Pos} (ho : QP X tb W o fx) (ha : QP X tb W e f) (hbase : attributeBase o "split" X.env (eval o X.env) = eval o X.env := by rfl)
    (hfew : ((backTo cpos (starEach [e] X.env)).all (fun x => !x.1) && (backToKw cpos (keywordEach [] X.env)).all (fun x => x.1.isSome)
      && decide (([e] : List Expr).length + ([] : List Keyword).length + (if ([] : List Keyword).isEmpty then 0 else 1) < 30)) = true := by rfl)
    (hline : (apos.endLine == cpos.line) = true := by rfl) (hs : starEach [e] X.env = [(false, eval e X.env)] := by rfl) (hplain : (backTo cpos (starEach [] X.env)).any (·.1) = false := by rfl) :
    QE X tb W (.Call (.Attribute o "split" apos) [e] [] cpos) (eMeth "str" splitD fx (aCons f aNil)) :=
  qe_meth PySem.F.plainAttrs_str PySem.F.slot_str_split PySem.F.type_str_split mt_split mri_split ho (qap_cons ha qap_nil hs) (.inl rfl) hbase hfew hline hs hplain
/-! ### tuple(x), list(x) -/
def tupleD : List D → Option D
  | [.lst xs] => some (.tup xs)
  | [.tup xs] => some (.tup xs)
  | _ => none
theorem cri_tuple : CRI X tb (fun xs H Q => ∃ p ys, xs = [.ref p] ∧ ((SqL X.K H p ys ∧ ∀ l, H l = none → Q (.ref l) (upd H l (.tup ys))) ∨ (SqT X.K H p ys ∧ Q (.ref p) H))) tupleD := fun g σ env H Q xs vs d E r e q => by
  unfold tupleD at e
  split at e
  · rename_i ds
    cases e
    obtain ⟨v, rfl, r1⟩ := rep1 r
    obtain ⟨a, ws, rfl, _, ea, la, ra⟩ := r1
    refine ⟨a, ws, rfl, .inl ⟨.of ea, fun l hl => ?_⟩⟩
    have st := E.alloc (o := .tup ws) hl
    refine q (.ref l) _ st ?_
    simp only [Rep]
    exact ⟨l, ws, rfl, .of upd_same, la, ra.mv (E.mv st)⟩
  · rename_i ds
    cases e
    obtain ⟨v, rfl, r1⟩ := rep1 r
    have r2 := r1
    simp only [RepP, Rep] at r1
    obtain ⟨a, ws, rfl, ea, la, ra⟩ := r1
    exact ⟨a, ws, rfl, .inr ⟨ea, q _ H E.refl r2⟩⟩
  · cases e
theorem qe_tuple {e : Expr} {p : Pos} {f : Env → T D} (hg : Gl X "tuple") (hm : X.mg "tuple" = none) (ha : QP X tb W e f) (hs : starEach [e] X.env = [(false, eval e X.env)] := by rfl) (hpl : (backTo pos (starEach [] X.env)).any (·.1) = false := by rfl) :
    QE X tb W (.Call (.Name "tuple" p) [e] [] pos) (eCall tupleD (aCons f aNil)) := qe_callTy call_tuple_of cri_tuple hg hm (by decide +kernel) (qap_cons ha qap_nil hs) hs hpl
def listD : List D → Option D
  | [.lst xs] => some (.lst xs)
  | [.tup xs] => some (.lst xs)
  | _ => none
/-- list(x): a new list, that floats -/
theorem qo_list {e : Expr} {p : Pos} {f : Env → T D} (hg : Gl X "list") (hm : X.mg "list" = none) (ha : QP X tb W e f) (hs : starEach [e] X.env = [(false, eval e X.env)] := by rfl) (hpl : (backTo pos (starEach [] X.env)).any (·.1) = false := by rfl) :
    QO X tb W (.Call (.Name "list" p) [e] [] pos) (eCall listD (aCons f aNil)) := by
  obtain ⟨t, p1, i1⟩ := (qap_cons ha qap_nil hs).ex
  refine ⟨_, pe_callTy call_list_of hg hm (by decide +kernel) p1 (by decide) (by decide) hs hpl, fun g σ env H Q E hw => ?_⟩
  unfold eCall at hw
  rw [T.wp_bind] at hw
  refine i1 g σ env H _ E (T.wp_mono (fun xs q vs H1 s1 r1 => ?_) (fun _ z => z) hw)
  have E1 := E.step s1
  unfold listD at q
  split at q
  · rename_i ds
    obtain ⟨v, rfl, r2⟩ := rep1 r1
    obtain ⟨a, ws, rfl, _, ea, la, ra⟩ := r2
    refine ⟨a, ws, rfl, .inl (.of ea), fun l hl => ?_⟩
    obtain ⟨n0, h0⟩ := E1.free0 hl
    exact q l _ (s1.trans (E1.alloc hl)) (E1.float hl) n0 h0 (s1.free hl) ⟨ws, upd_same, la, ra.mv (E1.mvFloat hl)⟩
  · rename_i ds
    obtain ⟨v, rfl, r2⟩ := rep1 r1
    simp only [RepP, Rep] at r2
    obtain ⟨a, ws, rfl, ea, la, ra⟩ := r2
    refine ⟨a, ws, rfl, .inr ea, fun l hl => ?_⟩
    obtain ⟨n0, h0⟩ := E1.free0 hl
    exact q l _ (s1.trans (E1.alloc hl)) (E1.float hl) n0 h0 (s1.free hl) ⟨ws, upd_same, la, ra.mv (E1.mvFloat hl)⟩
  · exact q.elim
/-! ### append -/
def sApp (i : Nat) (f : Env → T D) : Env → T Fl := fun env => match env[i]? with
  | some (.own (.lst xs)) => (f env).bind fun d => if xs.length < 16777216 then .ret (.nx (env.set i (.own (.lst (xs ++ [d]))))) else .bad
  | _ => .bad
theorem write_step {p : Pg} {g : Gh} {σ : St} {env : Env} {H : Hp} {i : Nat} {d d' : D} {a : Addr} {o : HO} (E : ER p g σ env H) (h : env[i]? = some (.own d)) (hs : σ[i]? = some (some (.ref a))) (ho : ∀ ps, o ≠ .tbl ps)
    (r : Mv (Nn g σ env) (Nn g σ env) H (upd H a o) → OwnRep p g.C (upd H a o) (Nn g σ env) d' a) : SStep g σ env H σ (env.set i (.own d')) (upd H a o) := by
  have hi : i < env.length := (List.getElem?_eq_some_iff.mp h).1
  have hoi : OwnAt σ env i a := ⟨⟨d, h⟩, hs⟩
  obtain ⟨d0, _, r0⟩ := E.own hoi
  have nka : ∀ u, H a = some u → (∃ vs, u = .lst vs) ∨ ∃ kws, u = .dK kws := fun u hu => by
    rcases r0.obj with ⟨vs, e⟩ | ⟨kws, e⟩ <;> rw [hu] at e <;> cases e
    · exact .inl ⟨vs, rfl⟩
    · exact .inr ⟨kws, rfl⟩
  have hNa : Nn g σ env a := .inr ⟨i, hoi⟩
  have own' : ∀ j b, OwnAt σ (env.set i (.own d')) j b → OwnAt σ env j b := fun j b => by
    unfold OwnAt
    by_cases hj : j = i
    · subst hj
      rw [List.getElem?_set_self hi, h]
      rintro ⟨_, e⟩; exact ⟨⟨d, rfl⟩, e⟩
    · rw [List.getElem?_set_ne (Ne.symm hj)]
      exact id
  have oth : ∀ b u, H b = some u → (∀ vs, u ≠ .lst vs) → (∀ kws, u ≠ .dK kws) → upd H a o b = some u := fun b u hu n1 n2 => by
    rw [upd_ne]
    · exact hu
    · rintro rfl
      rcases nka u hu with ⟨_, z⟩ | ⟨_, z⟩
      · exact n1 _ z
      · exact n2 _ z
  refine ⟨fun b u hu n _ _ => ?_, fun b xs hb => oth b _ hb (fun _ => by simp) (fun _ => by simp), fun b u w hb => oth b _ hb (fun _ => by simp) (fun _ => by simp), fun b ⟨u, hu, t⟩ => ?_, fun b n _ z => ?_⟩
  · rw [upd_ne (show b ≠ a from fun z => n (by rw [z]; exact hNa))]; exact hu
  · by_cases z : b = a
    · subst z; exact ⟨o, upd_same, ho⟩
    · exact ⟨u, by rw [upd_ne z]; exact hu, t⟩
  · rcases z with z | ⟨j, z⟩
    · exact n (.inl z)
    · exact n (.inr ⟨j, own' j b z⟩)
theorem qs_app (i : Nat) {x : Str} {e : Expr} {f : Env → T D} {apos cpos npos : Pos} (hN : X.N[i]? = some x := by rfl) (hv : Vis X.env.scope x := by first | exact Or.inl rfl | exact Or.inr (Or.inl rfl) | exact Or.inr (Or.inr rfl)) (ha : QE X tb W e f) (hd : (x == ("__debug__" : Str)) = false := by decide)
    (hcd : (x == ("__classdict__" : Str)) = false := by decide) (hbase : attributeBase (.Name x npos) "append" X.env (eval (.Name x npos) X.env) = eval (.Name x npos) X.env := by rfl)
    (hfew : ((backTo cpos (starEach [e] X.env)).all (fun x => !x.1) && (backToKw cpos (keywordEach [] X.env)).all (fun x => x.1.isSome)
      && decide (([e] : List Expr).length + ([] : List Keyword).length + (if ([] : List Keyword).isEmpty then 0 else 1) < 30)) = true := by rfl)
    (hline : (apos.endLine == cpos.line) = true := by rfl) (hs : starEach [e] X.env = [(false, eval e X.env)] := by rfl) (hplain : (backTo cpos (starEach [] X.env)).any (·.1) = false := by rfl)
    (hsw : swapsWith (.Call (.Attribute (.Name x npos) "append" apos) [e] [] cpos) none pos.line X.env = pure false := by rfl) :
    QS X tb W (.Expr (.Call (.Attribute (.Name x npos) "append" apos) [e] [] cpos) pos) (sApp i f) := by
  obtain ⟨t, p1, i1⟩ := (qa_cons ha qa_nil hs).ex
  refine ⟨_, ps_expr (pe_bm PySem.F.plainAttrs_list PySem.F.slot_list_append PySem.F.type_list_append mt_append (pe_var (i := i) hN hv hd hcd) p1 hbase hfew hline hs hplain) hsw, fun g σ env H Dn E hw => ?_⟩
  unfold sApp at hw
  split at hw
  · rename_i xs he
    rw [T.wp_bind] at hw
    obtain ⟨a, hs, vs, ea, la, ra⟩ := E.slot i _ he
    have hoi : OwnAt σ env i a := ⟨⟨_, he⟩, hs⟩
    have nc : ¬ g.C a := fun c => (E.fresh i a hoi).1 (g.hC a c)
    refine ⟨.ref a, hs, .inl ⟨rfl, _, .of ea⟩, ?_⟩
    refine i1 g σ env H _ E ?_
    unfold aCons
    rw [T.wp_bind]
    refine T.wp_mono (fun d q => ?_) (fun x q cls dx H' s r => q cls dx σ env H' (E.step s) (s.s E) r) hw
    intro us H1 s1 r1
    have E1 := E.step s1
    obtain ⟨u, us', rfl, ru, rn⟩ := (show ∃ v ws, us = v :: ws ∧ Rep (pgOf X tb) g.C H1 (Nn g σ env) d v ∧ RepL (pgOf X tb) g.C H1 (Nn g σ env) [] ws by simpa only [RepL] using r1)
    have rn : us' = [] := by simpa only [RepL] using rn
    subst rn
    split at q
    · rename_i hl
      have ea1 : H1 a = some (.lst vs) := s1.grow a _ ea nc (fun _ => by simp)
      have ra1 := ra.mv (E.mv s1)
      have hz : vs.length < sizeLine := by rw [ra.length, size16]; exact hl
      have w : Mv (Nn g σ env) (Nn g σ env) H1 (upd H1 a (.lst (vs ++ [u]))) → OwnRep (pgOf X tb) g.C (upd H1 a (.lst (vs ++ [u]))) (Nn g σ env) (.lst (xs ++ [d])) a := fun m =>
        ⟨_, upd_same, by rw [List.length_append, size16]; simp; omega, (ra1.app (.one ru)).mv m⟩
      refine ⟨a, vs, u, rfl, rfl, ea1, hz, ?_⟩
      exact q σ _ (E1.write he hs (fun _ => by simp) w) ((s1.s E).trans (write_step E1 he hs (fun _ => by simp) w))
    · exact q.elim
  · exact hw.elim
end
end MM

namespace MM
open PySem PySem.Spec L2

/-! ### constants of the top, read out of K -/
mutual
def kRep (K : PySem.W.Frag) : D → Value → Bool
  | .non, v => (match v with
    | .none => true
    | _ => false)
  | .bl b, v => (match v with
    | .bool c => b == c
    | _ => false)
  | .int i, v => (match v with
    | .int j _ => decide (i = j)
    | _ => false)
  | .str s, v => (match v with
    | .str x _ => x.cps.toList == s && okS s
    | _ => false)
  | .tup ds, v => (match v with
    | .ref a => (match K.lookup a with
      | some ⟨.type c, _, .seq its _, _⟩ => decide (c = "tuple") && (decide (its.size ≤ 16777216) && kRepL K ds its.toList)
      | _ => false)
    | _ => false)
  | _, _ => false
def kRepL (K : PySem.W.Frag) : List D → List Value → Bool
  | [], vs => (match vs with
    | [] => true
    | _ => false)
  | d :: ds, vs => (match vs with
    | v :: vs => kRep K d v && kRepL K ds vs
    | _ => false)
end
section
variable {K : PySem.W.Frag}
mutual
theorem kRep_ok : ∀ {d : D} {u : Value}, kRep K d u = true → ∃ v, RelV v u ∧ ∀ mg tb, KR ⟨K, mg, tb⟩ v d
  | .non, u, h => by
    unfold kRep at h
    split at h
    · exact ⟨.non, rfl, fun _ _ _ _ _ => by simp [Rep]⟩
    · cases h
  | .bl b, u, h => by
    unfold kRep at h
    split at h
    · exact ⟨.bl b, by rw [show b = _ from by simpa using h]; rfl, fun _ _ _ _ _ => by simp [Rep]⟩
    · cases h
  | .int i, u, h => by
    unfold kRep at h
    split at h
    · rename_i j t
      have e : i = j := of_decide_eq_true h
      subst e
      exact ⟨.int i, ⟨t, rfl⟩, fun _ _ _ _ _ => repI⟩
    · cases h
  | .str s, u, h => by
    unfold kRep at h
    split at h
    · rename_i x t
      exact ⟨.str x, ⟨t, rfl⟩, fun _ _ => kr_str h⟩
    · cases h
  | .tup ds, u, h => by
    unfold kRep at h
    split at h
    · rename_i a
      split at h
      · rename_i c od its n sl hl
        simp only [Bool.and_eq_true] at h
        obtain ⟨h1, h2, h3⟩ := h
        obtain ⟨vs, rv, hr⟩ := kRepL_ok h3
        have e2 : its.size ≤ sizeLine := by rw [size16]; exact of_decide_eq_true h2
        refine ⟨.ref a, rfl, fun mg tb C H N => ?_⟩
        simp only [Rep]
        have r := hr mg tb C H N
        refine ⟨a, vs, rfl, .inr ⟨_, its, n, hl, congrArg Value.type (of_decide_eq_true h1), rfl, e2, rv⟩, ?_, r⟩
        rw [← r.length, rv.length]
        simpa using e2
      · cases h
    · cases h
  | .lst _, _, h => by simp [kRep] at h
  | .dic _, _, h => by simp [kRep] at h
  | .cup, _, h => by simp [kRep] at h
  | .fn _, _, h => by simp [kRep] at h
  | .ty _, _, h => by simp [kRep] at h
theorem kRepL_ok : ∀ {ds : List D} {us : List Value}, kRepL K ds us = true → ∃ vs, Vals vs us ∧ ∀ mg tb C H N, RepL ⟨K, mg, tb⟩ C H N ds vs
  | [], us, h => by
    unfold kRepL at h
    split at h
    · exact ⟨[], .nil, fun _ _ _ _ _ => .nil⟩
    · cases h
  | d :: ds, us, h => by
    unfold kRepL at h
    split at h
    · rename_i u us
      simp only [Bool.and_eq_true] at h
      obtain ⟨v, r1, k1⟩ := kRep_ok h.1
      obtain ⟨vs, r2, k2⟩ := kRepL_ok h.2
      exact ⟨v :: vs, .cons r1 r2, fun mg tb C H N => .cons (k1 mg tb C H N) (k2 mg tb C H N)⟩
    · cases h
end
/-- the module's name x stands for d -/
def ConAt (K : PySem.W.Frag) (mg : Str → Option Value) (x : Str) (d : D) : Prop := ∃ v u, mg x = some u ∧ RelV v u ∧ ∀ tb, KR ⟨K, mg, tb⟩ v d
def conB (K : PySem.W.Frag) (x : Str) (d : D) : Bool := match PySem.W.nsIn K mainGlobals x with
  | some (some u) => kRep K d u
  | _ => false
theorem con_ok {mg : Str → Option Value} {h : Heap} {x : Str} {d : D} (X : K.In h) (G : h.Ns mainGlobals mg) (c : conB K x d = true) : ConAt K mg x d := by
  unfold conB at c
  split at c
  · rename_i u hu
    obtain ⟨v, r, k⟩ := kRep_ok c
    exact ⟨v, u, PySem.W.mg_of X G hu, r, fun tb => k mg tb⟩
  · cases c
/-- the module's name x stands for a dict with text keys -/
def DctAt (K : PySem.W.Frag) (w : World) (mg : Str → Option Value) (x : Str) (f : List (List Nat × D)) : Prop := ∃ a, mg x = some (.ref a) ∧ ∀ q ∈ f, ∃ v, KDct K w a (sl q.1) v ∧ ∀ mg tb, KR ⟨K, mg, tb⟩ v q.2
def dctB (K : PySem.W.Frag) (a : Addr) (f : List (List Nat × D)) : Bool := f.all fun q => match PySem.W.nsIn K a (sl q.1) with
  | some (some u) => kRep K q.2 u
  | _ => false
theorem dct_ok {w : World} {mg : Str → Option Value} {x : Str} {f : List (List Nat × D)} {a : Addr} {es : Array DictEntry} {n : Nat} (hm : mg x = some (.ref a)) (k : KDict K w a es n) (c : dctB K a f = true) : DctAt K w mg x f := by
  refine ⟨a, hm, fun q hq => ?_⟩
  have h := List.all_eq_true.mp c q hq
  split at h
  · rename_i u hu
    obtain ⟨v, r, k'⟩ := kRep_ok h
    exact ⟨v, ⟨es, n, u, k.at_, k.lit, hu, r⟩, k'⟩
  · cases h
end
def lookN {α : Type} : List (List Nat × α) → List Nat → Option α
  | [], _ => none
  | (x, r) :: q, y => if eqNats x y then some r else lookN q y
theorem lookN_mem {α : Type} {y : List Nat} {r : α} : ∀ {dp : List (List Nat × α)}, lookN dp y = some r → (y, r) ∈ dp
  | [], h => by cases h
  | (x, r') :: q, h => by
    unfold lookN at h
    rw [eqNats_eq] at h
    split at h
    · rename_i e
      have e := of_decide_eq_true e
      subst e
      cases h
      exact List.mem_cons_self
    · exact List.mem_cons_of_mem _ (lookN_mem h)
def dgetK (f : List (List Nat × D)) : D → Option D
  | .str s => lookN f s
  | _ => none
section
variable {X : Cx} {tb : Tb} {W : WX} {pos : Pos}
theorem qe_con {x : Str} {d : D} (k : ConAt X.K X.mg x d) (hg : Gl X x := by rfl) (hd : (x == ("__debug__" : Str)) = false := by decide) : QE X tb W (.Name x pos) (eC d) := by
  obtain ⟨v, u, h1, h2, h3⟩ := k
  exact qe_glob h1 h2 (h3 tb) hg hd
theorem qe_ixK {x : Str} {f : List (List Nat × D)} {i : Expr} {fi : Env → T D} {p : Pos} (k : DctAt X.K X.w X.mg x f) (h : QP X tb W i fi) (hs : PlainIx i := by exact fun _ _ => rfl) (hg : Gl X x := by rfl) (hd : (x == ("__debug__" : Str)) = false := by decide) :
    QE X tb W (.Subscript (.Name x p) i pos) (e1 (dgetK f) fi) := by
  obtain ⟨a, hm, hk⟩ := k
  obtain ⟨t, h1, h2⟩ := h.ex
  refine ⟨_, pe_ix ix_kdict (pe_glob (v := .ref a) hg hm rfl hd) h1 hs, fun g σ env H Q E hw => ?_⟩
  unfold e1 at hw
  rw [T.wp_bind] at hw
  refine h2 g σ env H _ E (T.wp_mono (fun x q vx H1 s1 r1 => ?_) (fun _ z => z) hw)
  cases x with
  | str s =>
    cases hl : lookN f s with
    | none => rw [show dgetK f (.str s) = none from hl] at q; exact q.elim
    | some d =>
      rw [show dgetK f (.str s) = some d from hl] at q
      simp only [RepP, Rep] at r1
      obtain ⟨rfl, _, _⟩ := r1
      obtain ⟨v, kd, kr⟩ := hk _ (lookN_mem hl)
      exact ⟨a, _, v, rfl, rfl, kd, q v H1 s1 (kr X.mg tb _ _ _)⟩
  | _ => exact q.elim
/-! ### index -/
def strsOf : List D → Option (List (List Nat))
  | [] => some []
  | .str x :: xs => (strsOf xs).map fun r => x :: r
  | _ => none
def idxS : List (List Nat) → List Nat → Nat → Option Nat
  | [], _, _ => none
  | x :: xs, y, n => if eqNats x y then some n else idxS xs y (Nat.succ n)
def indexD : D → List D → Option D
  | .lst xs, [.str s] => (strsOf xs).bind fun ss => (idxS ss s 0).map fun (n : Nat) => D.int (Int.ofNat n)
  | _, _ => none
theorem strsOf_eq : ∀ {xs : List D} {ss : List (List Nat)}, strsOf xs = some ss → xs = ss.map D.str
  | [], ss, h => by cases h; rfl
  | .str x :: xs, ss, h => by
    simp only [strsOf, Option.map_eq_some_iff] at h
    obtain ⟨r, h1, rfl⟩ := h
    rw [strsOf_eq h1]
    rfl
  | .non :: _, _, h | .bl _ :: _, _, h | .int _ :: _, _, h | .lst _ :: _, _, h | .tup _ :: _, _, h | .dic _ :: _, _, h | .cup :: _, _, h | .fn _ :: _, _, h | .ty _ :: _, _, h => by cases h
theorem repStrs {p : Pg} {C N : Addr → Prop} {H : Hp} : ∀ {ss : List (List Nat)} {vs : List V}, RepL p C H N (ss.map D.str) vs → vs = ss.map fun s => V.str (sl s)
  | [], _, h => by simpa [RepL] using h
  | s :: ss, _, h => by
    simp only [List.map_cons, RepL] at h
    obtain ⟨v, ws, rfl, r, q⟩ := h
    simp only [Rep] at r
    rw [r.1, repStrs q]
    rfl
theorem idxS_ok {y : List Nat} : ∀ {ss : List (List Nat)} {k n : Nat}, idxS ss y k = some n → ∃ j, n = k + j ∧ ss[j]? = some y ∧ ∀ m s', m < j → ss[m]? = some s' → s' ≠ y
  | [], _, _, h => by cases h
  | x :: xs, k, n, h => by
    unfold idxS at h
    rw [eqNats_eq] at h
    split at h
    · rename_i e
      have e := of_decide_eq_true e
      subst e
      cases h
      exact ⟨0, rfl, rfl, fun m _ hm => absurd hm (Nat.not_lt_zero m)⟩
    · rename_i e
      obtain ⟨j, h1, h2, h3⟩ := idxS_ok h
      refine ⟨j + 1, by omega, by simpa using h2, fun m s' hm hs => ?_⟩
      cases m with
      | zero =>
        have hs : x = s' := by simpa using hs
        subst hs
        simpa using e
      | succ m => exact h3 m s' (by omega) (by simpa using hs)
theorem sl_inj' {a b : List Nat} (h : sl a = sl b) : a = b := by
  have := congrArg (fun s : Str => s.cps.toList) h
  simpa [sl] using this
theorem mri_index : MRI X tb (rIndex X.K) indexD := fun g σ env H Q x xs vx vs d E rx rs e q => by
  unfold indexD at e
  split at e
  · rename_i xs s
    simp only [Option.bind_eq_some_iff, Option.map_eq_some_iff] at e
    obtain ⟨ss, h1, n, h2, rfl⟩ := e
    rw [strsOf_eq h1] at rx
    obtain ⟨v, rfl, rb⟩ := rep1 rs
    obtain ⟨a, ws, rfl, _, ea, la, ra⟩ := rx
    simp only [RepP, Rep] at rb
    obtain ⟨rfl, _, _⟩ := rb
    have ew := repStrs ra
    obtain ⟨j, e1, e2, e3⟩ := idxS_ok h2
    have e1 : n = j := by omega
    subst e1
    refine ⟨a, ws, _, n, .str (sl s), rfl, rfl, .of ea, rfl, ?_, ?_, ?_, fun m z hm hz => ?_, q _ H E.refl repI⟩
    · rw [ew]
      simp [flatV]
    · rw [ew, List.getElem?_map, e2]
      rfl
    · simp [eqV]
    · rw [ew, List.getElem?_map] at hz
      cases hs : ss[m]? with
      | none => rw [hs] at hz; cases hz
      | some s' =>
        rw [hs] at hz
        cases hz
        have ne := e3 m s' hm hs
        simp only [eqV, beq_eq_false_iff_ne]
        exact fun z => ne (sl_inj' z)
  · cases e
theorem qe_index {o e : Expr} {fx f : Env → T D} {apos cpos : Pos} (ho : QP X tb W o fx) (ha : QP X tb W e f) (hbase : attributeBase o "index" X.env (eval o X.env) = eval o X.env := by rfl)
    (hfew : ((backTo cpos (starEach [e] X.env)).all (fun x => !x.1) && (backToKw cpos (keywordEach [] X.env)).all (fun x => x.1.isSome)
      && decide (([e] : List Expr).length + ([] : List Keyword).length + (if ([] : List Keyword).isEmpty then 0 else 1) < 30)) = true := by rfl)
    (hline : (apos.endLine == cpos.line) = true := by rfl) (hs : starEach [e] X.env = [(false, eval e X.env)] := by rfl) (hplain : (backTo cpos (starEach [] X.env)).any (·.1) = false := by rfl) :
    QE X tb W (.Call (.Attribute o "index" apos) [e] [] cpos) (eMeth "list" indexD fx (aCons f aNil)) :=
  qe_meth PySem.F.plainAttrs_list PySem.F.slot_list_index PySem.F.type_list_index mt_index mri_index ho (qap_cons ha qap_nil hs) (.inr rfl) hbase hfew hline hs hplain
end
end MM

namespace MM
open PySem PySem.Spec L2

/-! ### defs that make lambdas: their code object is known -/
def DefAtC (K : PySem.W.Frag) (mg : Str → Option Value) (x : Str) (st : Stmt) (ps : List Str) (c : Addr) : Prop := ∃ f fd, Fun K x x st f fd ∧ mg x = some (.ref f) ∧ Binds K fd ps [] ∧ fd.code = .ref c
def MkAt (K : PySem.W.Frag) (mg : Str → Option Value) (base : Heap) (l : List (Addr × Str)) (x : Str) (st : Stmt) (ps : List Str) (q : Str) : Prop :=
  ∃ c P, DefAtC K mg x st ps c ∧ LamX.TabB base mg c P ∧ (P, q) ∈ l ∧ ∀ p ∈ l, p.1 = P → p.2 = q
section
variable {P : Program} {w : World} {K : PySem.W.Frag} {mg : Str → Option Value} {base : Heap} {l : List (Addr × Str)}
theorem MkAt.d {x : Str} {st : Stmt} {ps : List Str} {q : Str} (M : MkAt K mg base l x st ps q) : DefAt K mg x st ps := by
  obtain ⟨_, _, ⟨f, fd, F, g, b, _⟩, _⟩ := M
  exact ⟨f, fd, F, g, b⟩
theorem OkF.mkC {x : Str} {st : Stmt} {N ps : List Str} {k n : Nat} {gS : Env → T Fl} {q : Str} (M : MkAt K mg base l x st ps q) (S : FnScope N ps (defScope st)) (hn : ps.length = n)
    (hbody : ∀ (c Pt : Addr), LamX.TabB base mg c Pt → (Pt, q) ∈ l → (∀ p ∈ l, p.1 = Pt → p.2 = q) → ∀ (f : Addr) (A : Around) (outer : List PySem.Env) (s : Shared) (H : Hp) (E : XK), Room k (A.deeper (PyProof.Rows.envOfC x (defScope st) s.heap.objs.size f (.ref c))) →
      QB (cxOf (L2.CX P w) P w K mg base N x (defScope st) f (.ref c) A outer s H E) (tb0 l) (fun cls d _ H' => E cls d H') (defBody st) gS) :
    OkF P w K mg base l (k + 1) n x ps (runB N.length gS) := by
  obtain ⟨c, Pt, ⟨f, fd, F, g, b, hc⟩, TB, h1, h2⟩ := M
  refine ⟨f, fd, g, F.kp, b, ?_⟩
  obtain ⟨oc, od, kV, doc, pm, an, cdv, ct, osl, e, lk, hcd⟩ := F.ex
  subst e
  have hc : cdv = .ref c := hc
  subst hc
  refine fn_of lk hcd S (fun vs H Q E h => ?_) fun A outer s H vs Q E hr h => ?_
  · obtain ⟨_, _, _, hl, _⟩ := h
    rw [hl, hn]
  · obtain ⟨N0, C, ds, hl, hC, hcup, hn0, tabs, r, hw⟩ := h
    obtain ⟨t, p1, i1⟩ := (hbody c Pt TB h1 h2 f A outer s H E hr).ex
    refine ⟨t, p1, ?_⟩
    have hpl : ps.length ≤ N.length := by have := congrArg List.length S.pre; rw [List.length_take] at this; omega
    obtain ⟨E0, hN⟩ := er_start (p := ⟨K, mg, tb0 l⟩) (N := N) hC (by rw [hl, ← hn]; exact hpl) hcup hn0 tabs rfl r
    unfold runB at hw
    rw [T.wp_bind] at hw
    refine i1 _ _ _ H _ E0 (T.wp_mono (fun fl q => ?_) (fun x q => ?_) hw)
    · cases fl with
      | nx e' => exact fun σ' H' E' _ => q .non H' E'.out (by simp [Rep])
      | bk e' => exact q.elim
      | ct e' => exact q.elim
      | rt d => exact fun v σ' e' H' E' _ r' => q v H' E'.out r'
    · exact fun cls dx σ' env' H' E' _ r' => q cls dx H' E'.out r'
theorem ClsAt.at_ {x : Str} (c : ClsAt K mg x) : ∃ v, mg x = some v := by
  obtain ⟨C, h, _⟩ := c
  exact ⟨_, h⟩
theorem am_nil : ∀ q ∈ ([] : List (Str × (Env → T Fl))), ∃ v, mg q.1 = some v := fun _ h => absurd h List.not_mem_nil
theorem am_cons {x : Str} {f : Env → T Fl} {r : List (Str × (Env → T Fl))} (h : ∃ v, mg x = some v) (hr : ∀ q ∈ r, ∃ v, mg q.1 = some v) : ∀ q ∈ (x, f) :: r, ∃ v, mg q.1 = some v := fun q hq => by
  rcases List.mem_cons.mp hq with rfl | hq
  · exact h
  · exact hr q hq
/-- classes told by a list of pairs -/
def subOf (t : List (Str × Str × Bool)) (x y : Str) : Option Bool := (t.find? fun q => q.1 == x && q.2.1 == y).map (·.2.2)
theorem sub_of {t : List (Str × Str × Bool)} (h : ∀ q ∈ t, ∃ u v, mg q.1 = some u ∧ mg q.2.1 = some v ∧ PySem.W.exmOne K u v = some q.2.2) : SubAt K mg (subOf t) := fun x y b hb => by
  unfold subOf at hb
  simp only [Option.map_eq_some_iff] at hb
  obtain ⟨q, hq, rfl⟩ := hb
  have hm := List.mem_of_find?_eq_some hq
  have hp := List.find?_some hq
  simp only [Bool.and_eq_true, beq_iff_eq] at hp
  obtain ⟨rfl, rfl⟩ := hp
  exact h q hm
end
section
variable {X : Cx} {tb : Tb} {W : WX} {pos : Pos}
theorem qe_fnv {x : Str} {s : List Nat} {st : Stmt} {ps : List Str} (d : DefAt X.K X.mg x st ps) (hs : (x.cps.toList == s && !s.isEmpty) = true := by decide +kernel) (hg : Gl X x := by rfl) (hd : (x == ("__debug__" : Str)) = false := by decide) : QE X tb W (.Name x pos) (eC (.fn s)) := by
  obtain ⟨f, fd, F, g, b⟩ := d
  simp only [Bool.and_eq_true, beq_iff_eq] at hs
  obtain ⟨h1, h2⟩ := hs
  refine qe_glob (v := .ref f) g rfl (fun C H N => ?_) hg hd
  simp only [Rep]
  refine ⟨f, rfl, .inl ⟨fun z => ?_, ?_⟩⟩
  · subst z
    cases h2
  · subst h1
    have e : sl x.cps.toList = x := by simp [sl]
    rw [e]
    exact g
theorem dp_nil {P : Program} {w : World} {K : PySem.W.Frag} {mg : Str → Option Value} {base : Heap} {l : List (Addr × Str)} {k : Nat} : ∀ q ∈ ([] : Disp), ∃ ps, OkF P w K mg base l k q.2.1 (sl q.1) ps q.2.2 := fun _ h => absurd h List.not_mem_nil
theorem dp_cons {P : Program} {w : World} {K : PySem.W.Frag} {mg : Str → Option Value} {base : Heap} {l : List (Addr × Str)} {k n : Nat} {x : Str} {s : List Nat} {ps : List Str} {m : List D → T D} {r : Disp} (h : OkF P w K mg base l k n x ps m) (hs : (x.cps.toList == s) = true)
    (hr : ∀ q ∈ r, ∃ ps, OkF P w K mg base l k q.2.1 (sl q.1) ps q.2.2) : ∀ q ∈ (s, n, m) :: r, ∃ ps, OkF P w K mg base l k q.2.1 (sl q.1) ps q.2.2 := fun q hq => by
  rcases List.mem_cons.mp hq with rfl | hq
  · have hs : x.cps.toList = s := by simpa using hs
    subst hs
    have e : sl x.cps.toList = x := by simp [sl]
    exact ⟨ps, by rw [e]; exact h⟩
  · exact hr q hq
end
end MM

namespace MM
open PySem PySem.Spec L2

/-- the law's body, whose first row makes the cup and one thing more -/
theorem law_body2 {X : Cx} {tb : List (Addr × Str)} {W : WX} {st : Stmt} {rest : List Stmt} {h : Env → T Fl} {fe : Env → T D} {i j : Nat} {Ec : L2.St → XK} {Q : VK} {a : Addr} {ns : List Int} {H : Hp} (hN : 0 < X.N.length) (hi : i < X.N.length) (hj : j < X.N.length) (hij : i ≠ j)
    (hst : PS X st (tPar i j (tCons (tCallS (spCup X.K) Ec (tCons (tVar 0) tNil)) (tCons (rdE (pgOf X (tb0 tb)) W fe) tNil)))) (hb : QB X (tb0 tb) W rest h) (hS : SqL X.K H a (ns.map V.int)) (hl : ns.length ≤ 63) (ht : LamX.Tabs tb H) (hQ : ∀ H', Q (.bl true) H')
    (hw : ((fe (List.replicate X.N.length .no)).bind fun d => h ((lawEnv X.N.length i).set j (.frz d))).wp lawPost fun _ => False) : ∃ t, PSs X (st :: rest) t ∧ t { nx := fun _ H' => Q .non H', rt := Q } (L2.start X.N [.ref a]) H := by
  obtain ⟨u, p2, i2⟩ := hb.ex
  refine ⟨_, pss_cons hst p2, ?_⟩
  refine ⟨.ref a, ?_, a, ns, rfl, hS, hl, fun H1 p sm np cp => ?_⟩
  · unfold L2.start
    rfl
  have hlen : (L2.start X.N [.ref a]).length = X.N.length := by unfold L2.start; simp; omega
  obtain ⟨c, d, e, _⟩ := id cp
  have hob : Ob H1 p := ⟨_, e, fun _ => by simp⟩
  have E0 : ER (pgOf X (tb0 tb)) ⟨H1, fun b => b = p, fun b => b = p, fun _ z => z⟩ (L2.start X.N [.ref a]) (List.replicate X.N.length .no) H1 := by
    have noown : ∀ j b, ¬ OwnAt (L2.start X.N [.ref a]) (List.replicate X.N.length Sl.no) j b := fun j b ⟨⟨d, e⟩, _⟩ => by cases vo_no e
    refine ⟨by simp [hlen], fun b o h _ _ => h, fun b h => h, fun b z => by rw [show b = p from z]; exact cp, fun q hq => (ht q hq).ext fun b o e => sm b o e, fun b z => (show b = p from z) ▸ hob, fun j s hs => ?_, fun j k b h => (noown j b h).elim, fun j b h => (noown j b h).elim, fun t z => by cases z⟩
    cases vo_no hs
    trivial
  rw [T.wp_bind] at hw
  refine ⟨_, _, E0, T.wp_mono (fun d q v H2 s r => ?_) (fun _ z => z.elim) hw⟩
  refine ⟨.ref p, v, rfl, ?_⟩
  have rp : Rep (pgOf X (tb0 tb)) (fun b => b = p) H2 (Nn ⟨H1, fun b => b = p, fun b => b = p, fun _ z => z⟩ (L2.start X.N [.ref a]) (List.replicate X.N.length Sl.no)) .cup (.ref p) := by
    simp only [Rep]
    exact ⟨p, rfl, rfl⟩
  have E1 := (E0.step s).setF (i := i) (by simpa using hi) rp
  have m1 : SStep ⟨H1, fun b => b = p, fun b => b = p, fun _ z => z⟩ (L2.start X.N [.ref a]) (List.replicate X.N.length Sl.no) H2 ((L2.start X.N [.ref a]).set i (some (.ref p))) ((List.replicate X.N.length Sl.no).set i (.frz .cup)) H2 := SStep.setF
  have E2 := E1.setF (i := j) (by simpa using hj) (r.mv m1.mv)
  refine i2 _ _ _ H2 _ E2 (T.wp_mono (fun fl q => ?_) (fun _ z => z.elim) q)
  cases fl with
  | rt d =>
    cases d with
    | bl b =>
      cases b with
      | true =>
        intro v σ' e' H' _ _ r
        simp only [Rep] at r
        subst r
        exact hQ H'
      | false => exact q.elim
    | _ => exact q.elim
  | _ => exact q.elim
end MM

namespace MM
open PySem PySem.Spec L2
/-- a def of the top as a fact of the head -/
abbrev dd (x : Str) (st : Stmt) : He.DefD := ⟨(x, none), x, x, defArgs st, defBody st, defScope st, [], []⟩
section
variable {K : PySem.W.Frag} {h : Heap} {mg : Str → Option Value} {fa : List He.Fa} {fn : List He.DefD} {base : Heap} {l : List (Addr × Str)}
theorem defAt_of {x : Str} {st : Stmt} {ps : List Str} (X : K.In h) (G : h.Ns mainGlobals mg) (c : He.SaysD fa fn K) (i j : Nat) (b : ∀ (kV doc pm : Value) (an : Option Addr) (cdv ct : Value) (us : List Value), us.length = ps.length → bindArgs (PySem.W.fnOf x x (defArgs st) (defBody st) (defScope st) .none kV doc pm an cdv ct) ⟨us, []⟩ = pure (ps.zip us))
    (hg : fa[i]? = some (.glo x) := by rfl) (hd : fn[j]? = some (dd x st) := by rfl) : DefAt K mg x st ps := by
  obtain ⟨fd, F⟩ := c.def_ j hd
  exact ⟨_, fd, He5.fun_of F, He.glo_ok X G (c.fact i hg), F.bindsN b⟩
theorem mkAt_of {x q : Str} {st : Stmt} {ps : List Str} (X : K.In h) (G : h.Ns mainGlobals mg) (c : He.SaysD fa fn K) (i j : Nat) (b : ∀ (kV doc pm : Value) (an : Option Addr) (cdv ct : Value) (us : List Value), us.length = ps.length → bindArgs (PySem.W.fnOf x x (defArgs st) (defBody st) (defScope st) .none kV doc pm an cdv ct) ⟨us, []⟩ = pure (ps.zip us))
    (TB : LamX.TabB base mg (He.cT K (x, none)).1 (He.cT K (x, none)).2) (h1 : ((He.cT K (x, none)).2, q) ∈ l) (h2 : ∀ p ∈ l, p.1 = (He.cT K (x, none)).2 → p.2 = q) (hg : fa[i]? = some (.glo x) := by rfl) (hd : fn[j]? = some (dd x st) := by rfl) : MkAt K mg base l x st ps q := by
  obtain ⟨fd, F⟩ := c.def_ j hd
  have F' := He5.fun_of F
  refine ⟨_, _, ⟨_, fd, F', He.glo_ok X G (c.fact i hg), F.bindsN b, ?_⟩, TB, h1, h2⟩
  obtain ⟨oc, od, kV, doc, pm, an, cdv, ct, osl, e, lk, hcd⟩ := F'.ex
  obtain ⟨c', hc⟩ := He.codeIn_ref hcd
  subst e
  have e1 : He.codeOf K (x, none) = c' := He.codeOf_eq (p := (x, none)) lk hc
  show cdv = .ref (He.codeOf K (x, none))
  rw [e1, hc]
theorem clsAt_of {x : Str} (X : K.In h) (G : h.Ns mainGlobals mg) (c : He.SaysD fa fn K) (i j : Nat) (hg : fa[i]? = some (.glo x) := by rfl) (hd : fa[j]? = some (.exc x) := by rfl) : ClsAt K mg x := by
  obtain ⟨h1, h2, h3, h4⟩ := He.exc_ok (c.fact j hd)
  exact ⟨_, He.glo_ok X G (c.fact i hg), h1, h2, h3, h4⟩
theorem exm_of' {x y : Str} {b : Bool} (X : K.In h) (G : h.Ns mainGlobals mg) (c : He.SaysD fa fn K) (i j k : Nat) (hx : fa[i]? = some (.glo x) := by rfl) (hy : fa[j]? = some (.glo y) := by rfl) (he : fa[k]? = some (.exm x y b) := by rfl) : ∃ u v, mg x = some u ∧ mg y = some v ∧ PySem.W.exmOne K u v = some b :=
  ⟨_, _, He.glo_ok X G (c.fact i hx), He.glo_ok X G (c.fact j hy), He.exm_ok (c.fact k he)⟩
theorem sub_nil : ∀ q ∈ ([] : List (Str × Str × Bool)), ∃ u v, mg q.1 = some u ∧ mg q.2.1 = some v ∧ PySem.W.exmOne K u v = some q.2.2 := fun _ h => absurd h List.not_mem_nil
theorem sub_cons {x y : Str} {b : Bool} {t : List (Str × Str × Bool)} (h : ∃ u v, mg x = some u ∧ mg y = some v ∧ PySem.W.exmOne K u v = some b) (r : ∀ q ∈ t, ∃ u v, mg q.1 = some u ∧ mg q.2.1 = some v ∧ PySem.W.exmOne K u v = some q.2.2) :
    ∀ q ∈ (x, y, b) :: t, ∃ u v, mg q.1 = some u ∧ mg q.2.1 = some v ∧ PySem.W.exmOne K u v = some q.2.2 := fun q hq => by
  rcases List.mem_cons.mp hq with rfl | hq
  · exact h
  · exact r q hq
end
end MM

namespace Q40
open PySem PySem.Spec L2 MM
def topS (i : Nat) : Stmt := PySem.Challenge.pw_orderloom_k40_whole_order_of_conditions.main.body.getD i (.Pass ⟨0, 0, 0, 0⟩)

/-! ### the text -/
abbrev s_fits_condition : Stmt := topS 5
abbrev N_fits_condition : List Str := ["value"]
theorem sc_fits_condition : FnScope N_fits_condition ["value"] (defScope s_fits_condition) := ⟨rfl, rfl, rfl, by decide +kernel, rfl, by decide +kernel, by decide +kernel⟩
abbrev s_need_condition : Stmt := topS 6
abbrev N_need_condition : List Str := ["value"]
theorem sc_need_condition : FnScope N_need_condition ["value"] (defScope s_need_condition) := ⟨rfl, rfl, rfl, by decide +kernel, rfl, by decide +kernel, by decide +kernel⟩
abbrev s_word_of : Stmt := topS 8
abbrev N_word_of : List Str := ["condition"]
theorem sc_word_of : FnScope N_word_of ["condition"] (defScope s_word_of) := ⟨rfl, rfl, rfl, by decide +kernel, rfl, by decide +kernel, by decide +kernel⟩
abbrev s_is_strict : Stmt := topS 11
abbrev N_is_strict : List Str := ["condition"]
theorem sc_is_strict : FnScope N_is_strict ["condition"] (defScope s_is_strict) := ⟨rfl, rfl, rfl, by decide +kernel, rfl, by decide +kernel, by decide +kernel⟩
abbrev s_is_below : Stmt := topS 12
abbrev N_is_below : List Str := ["one", "other"]
theorem sc_is_below : FnScope N_is_below ["one", "other"] (defScope s_is_below) := ⟨rfl, rfl, rfl, by decide +kernel, rfl, by decide +kernel, by decide +kernel⟩
abbrev s_need_both : Stmt := topS 13
abbrev N_need_both : List Str := ["one", "other"]
theorem sc_need_both : FnScope N_need_both ["one", "other"] (defScope s_need_both) := ⟨rfl, rfl, rfl, by decide +kernel, rfl, by decide +kernel, by decide +kernel⟩
abbrev s_at_most : Stmt := topS 14
abbrev N_at_most : List Str := ["one", "other"]
theorem sc_at_most : FnScope N_at_most ["one", "other"] (defScope s_at_most) := ⟨rfl, rfl, rfl, by decide +kernel, rfl, by decide +kernel, by decide +kernel⟩
abbrev s_meet : Stmt := topS 15
abbrev N_meet : List Str := ["one", "other", "some", "word", "less"]
theorem sc_meet : FnScope N_meet ["one", "other"] (defScope s_meet) := ⟨rfl, rfl, rfl, by decide +kernel, rfl, by decide +kernel, by decide +kernel⟩
abbrev s_join : Stmt := topS 16
abbrev N_join : List Str := ["one", "other", "some", "word", "more"]
theorem sc_join : FnScope N_join ["one", "other"] (defScope s_join) := ⟨rfl, rfl, rfl, by decide +kernel, rfl, by decide +kernel, by decide +kernel⟩
abbrev s_steps_between : Stmt := topS 17
abbrev N_steps_between : List Str := ["one", "other", "word"]
theorem sc_steps_between : FnScope N_steps_between ["one", "other"] (defScope s_steps_between) := ⟨rfl, rfl, rfl, by decide +kernel, rfl, by decide +kernel, by decide +kernel⟩
abbrev s__law_cup : Stmt := topS 19
abbrev N__law_cup : List Str := ["script", "cell"]
theorem sc__law_cup : FnScope N__law_cup ["script"] (defScope s__law_cup) := ⟨rfl, rfl, rfl, by decide +kernel, rfl, by decide +kernel, by decide +kernel⟩
abbrev s__law_roll : Stmt := topS 20
abbrev N__law_roll : List Str := ["cup", "many", "found", "deep"]
theorem sc__law_roll : FnScope N__law_roll ["cup", "many"] (defScope s__law_roll) := ⟨rfl, rfl, rfl, by decide +kernel, rfl, by decide +kernel, by decide +kernel⟩
abbrev s__law_some : Stmt := topS 21
abbrev N__law_some : List Str := ["cup", "things"]
theorem sc__law_some : FnScope N__law_some ["cup", "things"] (defScope s__law_some) := ⟨rfl, rfl, rfl, by decide +kernel, rfl, by decide +kernel, by decide +kernel⟩
abbrev s__law_sort : Stmt := topS 22
abbrev N__law_sort : List Str := ["value"]
theorem sc__law_sort : FnScope N__law_sort ["value"] (defScope s__law_sort) := ⟨rfl, rfl, rfl, by decide +kernel, rfl, by decide +kernel, by decide +kernel⟩
abbrev s__law_like : Stmt := topS 23
abbrev N__law_like : List Str := ["one", "other", "sort", "first", "second"]
theorem sc__law_like : FnScope N__law_like ["one", "other"] (defScope s__law_like) := ⟨rfl, rfl, rfl, by decide +kernel, rfl, by decide +kernel, by decide +kernel⟩
abbrev s__law_conditions : Stmt := topS 24
abbrev N__law_conditions : List Str := ["words", "word"]
theorem sc__law_conditions : FnScope N__law_conditions [] (defScope s__law_conditions) := ⟨rfl, rfl, rfl, by decide +kernel, rfl, by decide +kernel, by decide +kernel⟩
abbrev s__law_below : Stmt := topS 25
abbrev N__law_below : List Str := ["one", "other", "words", "strict", "middle", "way"]
theorem sc__law_below : FnScope N__law_below ["one", "other"] (defScope s__law_below) := ⟨rfl, rfl, rfl, by decide +kernel, rfl, by decide +kernel, by decide +kernel⟩
abbrev s__law_error : Stmt := topS 26
abbrev N__law_error : List Str := ["call"]
theorem sc__law_error : FnScope N__law_error ["call"] (defScope s__law_error) := ⟨rfl, rfl, rfl, by decide +kernel, rfl, by decide +kernel, by decide +kernel⟩
abbrev s__law_met : Stmt := topS 27
abbrev N__law_met : List Str := ["one", "other", "all_words", "below", "word", "above", "greatest", "less", "least", "more"]
theorem sc__law_met : FnScope N__law_met ["one", "other", "all_words"] (defScope s__law_met) := ⟨rfl, rfl, rfl, by decide +kernel, rfl, by decide +kernel, by decide +kernel⟩
abbrev s__law_odd_calls : Stmt := topS 28
abbrev N__law_odd_calls : List Str := ["odd", "words", "call"]
theorem sc__law_odd_calls : FnScope N__law_odd_calls ["odd"] (defScope s__law_odd_calls) := ⟨rfl, rfl, rfl, by decide +kernel, rfl, by decide +kernel, by decide +kernel⟩
abbrev s_law : Stmt := topS 29
abbrev N_law : List Str := ["script", "cup", "all_words", "one", "other", "below", "above", "due", "word", "odds", "odd", "at", "bent"]
theorem sc_law : FnScope N_law ["script"] (defScope s_law) := ⟨rfl, rfl, rfl, by decide +kernel, rfl, by decide +kernel, by decide +kernel⟩
def c_CONDITIONS : D := (.tup [(.str [97, 116, 111, 109, 105, 99]), (.str [99, 97, 117, 115, 97, 108]), (.str [112, 97, 114, 97, 108, 108, 101, 108]), (.str [112, 114, 101, 102, 105, 120]), (.str [115, 110, 97, 112, 115, 104, 111, 116]), (.str [115, 101, 114, 105, 97, 108]), (.str [115, 116, 114, 105, 99, 116, 32, 97, 116, 111, 109, 105, 99]), (.str [115, 116, 114, 105, 99, 116, 32, 99, 97, 117, 115, 97, 108]), (.str [115, 116, 114, 105, 99, 116, 32, 112, 97, 114, 97, 108, 108, 101, 108]), (.str [115, 116, 114, 105, 99, 116, 32, 112, 114, 101, 102, 105, 120]), (.str [115, 116, 114, 105, 99, 116, 32, 115, 110, 97, 112, 115, 104, 111, 116]), (.str [115, 116, 114, 105, 99, 116, 32, 115, 101, 114, 105, 97, 108])])
def c_ABOVE : List (List Nat × D) := [([97, 116, 111, 109, 105, 99], (.tup [(.str [97, 116, 111, 109, 105, 99]), (.str [99, 97, 117, 115, 97, 108]), (.str [112, 97, 114, 97, 108, 108, 101, 108]), (.str [112, 114, 101, 102, 105, 120]), (.str [115, 110, 97, 112, 115, 104, 111, 116]), (.str [115, 101, 114, 105, 97, 108])])), ([99, 97, 117, 115, 97, 108], (.tup [(.str [99, 97, 117, 115, 97, 108]), (.str [112, 97, 114, 97, 108, 108, 101, 108]), (.str [112, 114, 101, 102, 105, 120]), (.str [115, 110, 97, 112, 115, 104, 111, 116]), (.str [115, 101, 114, 105, 97, 108])])), ([112, 97, 114, 97, 108, 108, 101, 108], (.tup [(.str [112, 97, 114, 97, 108, 108, 101, 108]), (.str [115, 110, 97, 112, 115, 104, 111, 116]), (.str [115, 101, 114, 105, 97, 108])])), ([112, 114, 101, 102, 105, 120], (.tup [(.str [112, 114, 101, 102, 105, 120]), (.str [115, 110, 97, 112, 115, 104, 111, 116]), (.str [115, 101, 114, 105, 97, 108])])), ([115, 110, 97, 112, 115, 104, 111, 116], (.tup [(.str [115, 110, 97, 112, 115, 104, 111, 116]), (.str [115, 101, 114, 105, 97, 108])])), ([115, 101, 114, 105, 97, 108], (.tup [(.str [115, 101, 114, 105, 97, 108])]))]
/-- what the top has left -/
def subs : Str → Str → Option Bool := subOf [("InvalidCondition", "InvalidCondition", true), ("InvalidCondition", "OrderError", true)]
structure TX (K : PySem.W.Frag) (w : World) (mg : Str → Option Value) (base : Heap) (tl : List (Addr × Str)) : Prop where
  d_fits_condition : DefAt K mg "fits_condition" s_fits_condition ["value"]
  d_need_condition : DefAt K mg "need_condition" s_need_condition ["value"]
  d_word_of : DefAt K mg "word_of" s_word_of ["condition"]
  d_is_strict : DefAt K mg "is_strict" s_is_strict ["condition"]
  d_is_below : DefAt K mg "is_below" s_is_below ["one", "other"]
  d_need_both : DefAt K mg "need_both" s_need_both ["one", "other"]
  d_at_most : DefAt K mg "at_most" s_at_most ["one", "other"]
  d_meet : DefAt K mg "meet" s_meet ["one", "other"]
  d_join : DefAt K mg "join" s_join ["one", "other"]
  d_steps_between : DefAt K mg "steps_between" s_steps_between ["one", "other"]
  d__law_cup : DefAt K mg "_law_cup" s__law_cup ["script"]
  d__law_roll : DefAt K mg "_law_roll" s__law_roll ["cup", "many"]
  d__law_some : DefAt K mg "_law_some" s__law_some ["cup", "things"]
  d__law_sort : DefAt K mg "_law_sort" s__law_sort ["value"]
  d__law_like : DefAt K mg "_law_like" s__law_like ["one", "other"]
  d__law_conditions : DefAt K mg "_law_conditions" s__law_conditions []
  d__law_below : DefAt K mg "_law_below" s__law_below ["one", "other"]
  d__law_error : DefAt K mg "_law_error" s__law_error ["call"]
  d__law_met : DefAt K mg "_law_met" s__law_met ["one", "other", "all_words"]
  m__law_odd_calls : MkAt K mg base tl "_law_odd_calls" s__law_odd_calls ["odd"] "_law_odd_calls.<locals>.<lambda>"
  d_law : DefAt K mg "law" s_law ["script"]
  c_InvalidCondition : ClsAt K mg "InvalidCondition"
  c_OrderError : ClsAt K mg "OrderError"
  sub : SubAt K mg subs
  n_abs : mg "abs" = none
  n_all : mg "all" = none
  n_bool : mg "bool" = none
  n_int : mg "int" = none
  n_isinstance : mg "isinstance" = none
  n_len : mg "len" = none
  n_list : mg "list" = none
  n_str : mg "str" = none
  n_tuple : mg "tuple" = none
  n_zip : mg "zip" = none
  k_CONDITIONS : ConAt K mg "CONDITIONS" c_CONDITIONS
  k_ABOVE : DctAt K w mg "ABOVE" c_ABOVE
section
variable {P : Program} {w : World} {K : PySem.W.Frag} {mg : Str → Option Value} {base : Heap} {tl : List (Addr × Str)}
/-! ### the cup and its draws, by hand -/
def SpCupF (P : Program) (w : World) (K : PySem.W.Frag) (mg : Str → Option Value) (base : Heap) : Prop := ∃ f fd, mg "_law_cup" = some (.ref f) ∧ PySem.W.keepIn K (.ref f) = true ∧ Binds K fd ["script"] [] ∧ FnOk P w K mg base (L2.CX P w) 1 f fd ["script"] (spCup K)
theorem ok__law_cup (X : TX K w mg base tl) : SpCupF P w K mg base := by
  obtain ⟨f, fd, F, g, b⟩ := X.d__law_cup
  refine ⟨f, fd, g, F.kp, b, F.okX sc__law_cup (fun vs H Q E h => ?_) (fun cdv A outer s H vs Q E hr h => ?_)⟩
  · obtain ⟨a, ns, rfl, _⟩ := h
    rfl
  · obtain ⟨a, ns, rfl, hS, hlen, q⟩ := h
    have nd := sc__law_cup.nd
    refine ⟨_, pss_cons (ps_set (i := 1) nd rfl (.inl rfl) (pe_callB call_abs (by rfl) X.n_abs (by decide +kernel) (pa_cons
        (pe_ix ix_list (pe_op op_cat (pe_callTy call_list_of (by rfl) X.n_list (by decide +kernel) (pa_cons (pv 0) pa_nil)) (pe_lst (pa_cons pe_int pa_nil))) pe_int (fun _ _ => rfl)) pa_nil)))
      (pss_one (ps_ret (pe_lst (pa_cons (pe_ifExp (pt_cmpR op_ge (pv 1) (pe_op op_pow pe_int pe_int) (nomark _)) (pe_op op_fdiv (pv 1) pe_int) pe_int)
        (pa_cons (pe_op op_add (pe_op op_mod (pe_callTy call_int1 (by rfl) X.n_int (by decide +kernel) (pa_cons (pe_op op_add (pe_op op_mul (pv 1) pe_int) pe_int) pa_nil)) pe_int) pe_int) pa_nil))))), ?_⟩
    have hz : ns.length ≤ sizeLine := by rw [size16]; omega
    refine ⟨.ref a, rfl, a, ns.map V.int, rfl, .inl hS, fun l nl => ⟨by rw [size16]; simp, fun m nm => ?_⟩⟩
    have nlm : l ≠ m := fun e => by rw [← e, upd_same] at nm; cases nm
    refine ⟨l, m, ns.map V.int, [.int 0], rfl, rfl, by rw [upd_ne nlm, upd_same], upd_same, by rw [size16]; simp; omega, fun p np => ?_⟩
    obtain ⟨x, hx⟩ : ∃ x : Int, (ns.map V.int ++ [V.int 0])[0]? = some (.int x) := by
      cases ns with
      | nil => exact ⟨0, rfl⟩
      | cons y r => exact ⟨y, rfl⟩
    refine ⟨p, _, 0, .int x, rfl, rfl, SqL.of upd_same, atI_nat (j := 0) hx, x, rfl, ?_⟩
    generalize hc : (if x < 0 then -x else x) = c
    have c0 : 0 ≤ c := by subst hc; split <;> omega
    refine ⟨_, rfl, 10, 18, rfl, rfl, ⟨by decide, by decide, by decide⟩, c, _, rfl, rfl, _, rfl, ?_⟩
    have sm3 : Same H (upd (upd (upd H l (.lst (ns.map V.int))) m (.lst [.int 0])) p (.lst (ns.map V.int ++ [.int 0]))) := fun b o e => by
      rw [upd_ne (ne_of_none (by rw [upd_ne (ne_of_none (by rw [upd_ne (ne_of_none e nl)]; exact e) nm), upd_ne (ne_of_none e nl)]; exact e) np), upd_ne (ne_of_none (by rw [upd_ne (ne_of_none e nl)]; exact e) nm), upd_ne (ne_of_none e nl)]
      exact e
    have fin : ∀ e : Int, 0 ≤ e → ∀ z, upd (upd (upd H l (.lst (ns.map V.int))) m (.lst [.int 0])) p (.lst (ns.map V.int ++ [.int 0])) z = none →
        Q (.ref z) (upd (upd (upd (upd H l (.lst (ns.map V.int))) m (.lst [.int 0])) p (.lst (ns.map V.int ++ [.int 0]))) z (.lst [.int e, .int ((c * 283 + 3907) % 2077503167 + 167)])) := fun e e0 z nz => by
      refine q _ z (fun b o hb => ?_) (sm3.free nz) ⟨e, _, upd_same, e0, by omega, by omega⟩
      rw [upd_ne (ne_of_none (sm3 _ _ hb) nz)]
      exact sm3 _ _ hb
    have pos1 : (0 : Int) < 2077503167 := by decide
    refine ite2 (fun _ => ?_) (fun _ => ?_)
    · refine ⟨_, rfl, _, _, rfl, rfl, ⟨by decide, by decide⟩, _, rfl, _, _, rfl, rfl, .inr ⟨by decide, by decide⟩, _, _, rfl, rfl, .inl ⟨_, rfl, _, _, rfl, rfl, pos1, _, _, rfl, rfl, by rw [size16]; simp, fin _ (by omega)⟩⟩
    · refine ⟨_, rfl, _, _, rfl, rfl, .inr ⟨by decide, by decide⟩, _, _, rfl, rfl, .inl ⟨_, rfl, _, _, rfl, rfl, pos1, _, _, rfl, rfl, by rw [size16]; simp, fin _ (by omega)⟩⟩
theorem ok__law_roll (X : TX K w mg base tl) : OkF P w K mg base tl 1 2 "_law_roll" ["cup", "many"] rollM := by
  obtain ⟨f, fd, F, g, b⟩ := X.d__law_roll
  refine ⟨f, fd, g, F.kp, b, F.okX sc__law_roll (fun vs H Q E h => ?_) (fun cdv A outer s H vs Q E hr h => ?_)⟩
  · obtain ⟨_, _, _, hl, _⟩ := h
    exact hl
  · obtain ⟨N0, C, ds, hl, hC, hcup, hn0, tabs, r, hw⟩ := h
    have nd := sc__law_roll.nd
    unfold rollM at hw
    split at hw
    rotate_left
    · exact hw.elim
    rename_i n
    split at hw
    rotate_left
    · exact hw.elim
    rename_i hn
    obtain ⟨v, w', rfl, rc, rn⟩ := ra2 r
    simp only [Rep] at rc rn
    obtain ⟨a, rfl, ca⟩ := rc
    subst rn
    obtain ⟨c, d, hH, c0, d0, d1⟩ := hcup a ca
    have hN : ((n.toNat : Nat) : Int) = n := by omega
    have fin : ∀ (k : Int) (H' : Hp), 0 ≤ k → k < n → Step ⟨K, mg, tb0 tl⟩ C H H' → Q (.int k) H' := fun k H' k0 k1 st => by
      have q := hw.2 k.toNat (by omega) (.int k) H' st
      refine q ?_
      simp only [Rep]
      congr 1
      omega
    have up : ∀ c' d' : Int, 0 ≤ c' → 0 ≤ d' → d' < 2147483543 → Step ⟨K, mg, tb0 tl⟩ C H (upd H a (.lst [.int c', .int d'])) := fun c' d' h0 h1 h2 => cup_step hcup tabs ca h0 h1 h2
    have md : 0 ≤ c % n ∧ c % n < n := ⟨Int.emod_nonneg _ (by omega), Int.emod_lt_of_pos _ (by omega)⟩
    have dv : 0 ≤ c / n := Int.ediv_nonneg c0 (by omega)
    refine ⟨_, pss_cons (ps_if (pt_cmpR op_gt (pe_ix ix_list (pv 0) pe_int (fun _ _ => rfl)) pe_int (nomark _))
        (pss_cons (ps_set (i := 2) nd rfl (.inl rfl) (pe_op op_mod (pe_callTy call_int1 (by rfl) X.n_int (by decide +kernel) (pa_cons (pe_ix ix_list (pv 0) pe_int (fun _ _ => rfl)) pa_nil)) (pv 1)))
        (pss_cons (ps_asg (pe_op op_fdiv (pe_ix ix_list (pv 0) pe_int (fun _ _ => rfl)) (pv 1)) (pg_sub (pv 0) pe_int set_list))
        (pss_one (ps_ret (pv 2))))) pss_nil)
      (pss_cons (ps_asg (pe_op op_mod (pe_callTy call_int1 (by rfl) X.n_int (by decide +kernel) (pa_cons (pe_op op_add (pe_op op_mul (pe_ix ix_list (pv 0) pe_int (fun _ _ => rfl)) pe_int) pe_int) pa_nil)) pe_int) (pg_sub (pv 0) pe_int set_list))
      (pss_cons (ps_set (i := 3) nd rfl (.inl rfl) (pe_op op_mod (pe_callTy call_int1 (by rfl) X.n_int (by decide +kernel) (pa_cons (pe_op op_mul (pe_ix ix_list (pv 0) pe_int (fun _ _ => rfl)) (pe_op op_add (pe_ix ix_list (pv 0) pe_int (fun _ _ => rfl)) pe_int)) pa_nil)) pe_int))
      (pss_one (ps_ret (pe_op op_mod (pe_callTy call_int1 (by rfl) X.n_int (by decide +kernel) (pa_cons (pe_op op_fdiv (pv 3) pe_int) pa_nil)) (pv 1)))))), ?_⟩
    refine ⟨.ref a, rfl, a, _, 0, .int c, rfl, rfl, SqL.of hH, atI_nat (j := 0) rfl, c, 0, rfl, rfl, _, rfl, ite2 (fun hc => ?_) (fun hc => ?_)⟩
    · refine ⟨.ref a, rfl, a, _, 0, .int c, rfl, rfl, SqL.of hH, atI_nat (j := 0) rfl, .inl ⟨c, rfl, .int n, rfl, c, n, rfl, rfl, hn.1, ?_⟩⟩
      refine ⟨.ref a, rfl, a, _, 0, .int c, rfl, rfl, SqL.of hH, atI_nat (j := 0) rfl, .int n, rfl, c, n, rfl, rfl, hn, .ref a, rfl, a, _, 0, 0, rfl, rfl, hH, rfl, ?_⟩
      refine ⟨.int (c % n), rfl, fin _ _ md.1 md.2 (up _ _ dv d0 d1)⟩
    · have e0 : 0 ≤ (d * 31051 + 7993) % 2147483543 := by omega
      have e1 : (d * 31051 + 7993) % 2147483543 < 2147483543 := by omega
      have pos1 : (0 : Int) < 2147483543 := by decide
      have pos2 : (0 : Int) < 2147483587 := by decide
      have st := up c ((d * 31051 + 7993) % 2147483543) c0 e0 e1
      refine ⟨.ref a, rfl, a, _, 1, .int d, rfl, rfl, SqL.of hH, atI_nat (j := 1) rfl, d, _, rfl, rfl, .inl ⟨by omega, by omega⟩, _, _, rfl, rfl, .inl ⟨_, rfl, _, _, rfl, rfl, pos1, .ref a, rfl, a, _, 1, 1, rfl, rfl, hH, rfl, ?_⟩⟩
      refine ⟨.ref a, rfl, a, [.int c, .int ((d * 31051 + 7993) % 2147483543)], 1, .int ((d * 31051 + 7993) % 2147483543), rfl, rfl, SqL.of upd_same, atI_nat (j := 1) rfl, .ref a, rfl, a, [.int c, .int ((d * 31051 + 7993) % 2147483543)], 1, .int ((d * 31051 + 7993) % 2147483543), rfl, rfl, SqL.of upd_same, atI_nat (j := 1) rfl,
        (d * 31051 + 7993) % 2147483543, 229, rfl, rfl, (d * 31051 + 7993) % 2147483543, _, rfl, rfl, .inl ⟨by omega, by omega⟩, ?_⟩
      refine .inl ⟨_, rfl, _, _, rfl, rfl, pos2, _, rfl, _, _, rfl, rfl, ⟨by decide, by decide⟩, .inl ⟨_, rfl, .int n, rfl, _, n, rfl, rfl, hn.1, ?_⟩⟩
      exact fin _ _ (Int.emod_nonneg _ (by omega)) (Int.emod_lt_of_pos _ (by omega)) st

def b_fits_condition : MM.Env → T Fl :=
  (sRet (eAnd (e1 (isiD "str") (eVar 0)) (e2 inD (eVar 0) (eC c_CONDITIONS))))
def m_fits_condition : List D → T D := runB 1 b_fits_condition
theorem ok_fits_condition (X : TX K w mg base tl) : OkF P w K mg base tl 1 1 "fits_condition" ["value"] m_fits_condition := OkF.mk X.d_fits_condition sc_fits_condition rfl fun f cdv A outer s H E hr =>
    (qb_one (qs_ret (qe_and (QE.p (qe_isi (t := "str") rfl (by rfl) X.n_isinstance (by rfl) X.n_str (by decide +kernel) (QE.p (qe_var 0)))) (qe_one (qe_cm (cm_in (u65 hr)) (QE.p (qe_var 0)) (QE.p (qe_con X.k_CONDITIONS)))))))
def b_need_condition : MM.Env → T Fl :=
  (sIf (MM.tNot (MM.tB (eFn 1 m_fits_condition (aCons (eVar 0) aNil)))) (sRaise "InvalidCondition") sNx)
def m_need_condition : List D → T D := runB 1 b_need_condition
theorem ok_need_condition (X : TX K w mg base tl) : OkF P w K mg base tl 2 1 "need_condition" ["value"] m_need_condition := OkF.mk X.d_need_condition sc_need_condition rfl fun f cdv A outer s H E hr =>
    (qb_one (qs_if (qt_not (qt_val (QE.p (qe_callF ((ok_fits_condition X).up (by omega)) hr (takes_of rfl rfl rfl rfl) (qa_cons (qe_var 0) qa_nil))))) (qb_one (qs_raise X.c_InvalidCondition (by rfl) (takes_of rfl rfl rfl rfl))) qb_nil))
def b_word_of : MM.Env → T Fl :=
  (sRet (e2 ixD (eMeth "str" splitD (eVar 0) (aCons (eC (.str [32])) aNil)) (e1 negD (eC (.int 1)))))
def m_word_of : List D → T D := runB 1 b_word_of
theorem ok_word_of (X : TX K w mg base tl) : OkF P w K mg base tl 1 1 "word_of" ["condition"] m_word_of := OkF.mk X.d_word_of sc_word_of rfl fun f cdv A outer s H E hr =>
    (qb_one (qs_ret (qe_ix (QE.p (qe_split (QE.p (qe_var 0)) (QE.p (qe_str [32])))) (QE.p (qe_neg (QE.p qe_int))))))
def b_is_strict : MM.Env → T Fl :=
  (sRet (e2 neD (eFn 1 m_word_of (aCons (eVar 0) aNil)) (eVar 0)))
def m_is_strict : List D → T D := runB 1 b_is_strict
theorem ok_is_strict (X : TX K w mg base tl) : OkF P w K mg base tl 2 1 "is_strict" ["condition"] m_is_strict := OkF.mk X.d_is_strict sc_is_strict rfl fun f cdv A outer s H E hr =>
    (qb_one (qs_ret (qe_cm (cm_ne hr.units) (QE.p (qe_callF ((ok_word_of X).up (by omega)) hr (takes_of rfl rfl rfl rfl) (qa_cons (qe_var 0) qa_nil))) (QE.p (qe_var 0)))))
def b_is_below : MM.Env → T Fl :=
  (sRet (eAnd (e2 inD (eFn 1 m_word_of (aCons (eVar 1) aNil)) (e1 (dgetK c_ABOVE) (eFn 1 m_word_of (aCons (eVar 0) aNil)))) (eOr (eNot (eFn 1 m_is_strict (aCons (eVar 0) aNil))) (eFn 1 m_is_strict (aCons (eVar 1) aNil)))))
def m_is_below : List D → T D := runB 2 b_is_below
theorem ok_is_below (X : TX K w mg base tl) : OkF P w K mg base tl 3 2 "is_below" ["one", "other"] m_is_below := OkF.mk X.d_is_below sc_is_below rfl fun f cdv A outer s H E hr =>
    (qb_one (qs_ret (qe_and (QE.p (qe_cm (cm_in (u65 hr)) (QE.p (qe_callF ((ok_word_of X).up (by omega)) hr (takes_of rfl rfl rfl rfl) (qa_cons (qe_var 1) qa_nil))) (QE.p (qe_ixK X.k_ABOVE (QE.p (qe_callF ((ok_word_of X).up (by omega)) hr (takes_of rfl rfl rfl rfl) (qa_cons (qe_var 0) qa_nil))))))) (qe_one (qe_or (QE.p (qe_not (QE.p (qe_callF ((ok_is_strict X).up (by omega)) hr (takes_of rfl rfl rfl rfl) (qa_cons (qe_var 0) qa_nil))))) (qe_one (qe_callF ((ok_is_strict X).up (by omega)) hr (takes_of rfl rfl rfl rfl) (qa_cons (qe_var 1) qa_nil))))))))
def b_need_both : MM.Env → T Fl :=
  (sSeq (sDrop (eFn 1 m_need_condition (aCons (eVar 0) aNil)))
    (sDrop (eFn 1 m_need_condition (aCons (eVar 1) aNil))))
def m_need_both : List D → T D := runB 2 b_need_both
theorem ok_need_both (X : TX K w mg base tl) : OkF P w K mg base tl 3 2 "need_both" ["one", "other"] m_need_both := OkF.mk X.d_need_both sc_need_both rfl fun f cdv A outer s H E hr =>
    (qb_cons (qs_expr (qe_callF ((ok_need_condition X).up (by omega)) hr (takes_of rfl rfl rfl rfl) (qa_cons (qe_var 0) qa_nil)))
    (qb_one (qs_expr (qe_callF ((ok_need_condition X).up (by omega)) hr (takes_of rfl rfl rfl rfl) (qa_cons (qe_var 1) qa_nil)))))
def b_at_most : MM.Env → T Fl :=
  (sSeq (sDrop (eFn 2 m_need_both (aCons (eVar 0) (aCons (eVar 1) aNil))))
    (sRet (eFn 2 m_is_below (aCons (eVar 0) (aCons (eVar 1) aNil)))))
def m_at_most : List D → T D := runB 2 b_at_most
theorem ok_at_most (X : TX K w mg base tl) : OkF P w K mg base tl 4 2 "at_most" ["one", "other"] m_at_most := OkF.mk X.d_at_most sc_at_most rfl fun f cdv A outer s H E hr =>
    (qb_cons (qs_expr (qe_callF ((ok_need_both X).up (by omega)) hr (takes_of rfl rfl rfl rfl) (qa_cons (qe_var 0) (qa_cons (qe_var 1) qa_nil))))
    (qb_one (qs_ret (qe_callF ((ok_is_below X).up (by omega)) hr (takes_of rfl rfl rfl rfl) (qa_cons (qe_var 0) (qa_cons (qe_var 1) qa_nil))))))
def b_meet : MM.Env → T Fl :=
  (sSeq (sDrop (eFn 2 m_need_both (aCons (eVar 0) (aCons (eVar 1) aNil))))
    (sSeq (sSet 2 (eComp (iSq (eC c_CONDITIONS)) [3] (sName 3) (MM.tAnd (MM.tB (eFn 2 m_is_below (aCons (eVar 3) (aCons (eVar 0) aNil)))) (MM.tB (eFn 2 m_is_below (aCons (eVar 3) (aCons (eVar 1) aNil))))) (eVar 3)))
    (sRet (e2 ixD (eComp (iSq (eVar 2)) [3] (sName 3) (MM.tB (eCall allD (aCons (eComp (iSq (eVar 2)) [4] (sName 4) tYesB (eFn 2 m_is_below (aCons (eVar 4) (aCons (eVar 3) aNil)))) aNil))) (eVar 3)) (eC (.int 0))))))
def m_meet : List D → T D := runB 5 b_meet
theorem ok_meet (X : TX K w mg base tl) : OkF P w K mg base tl 4 2 "meet" ["one", "other"] m_meet := OkF.mk X.d_meet sc_meet rfl fun f cdv A outer s H E hr =>
    (qb_cons (qs_expr (qe_callF ((ok_need_both X).up (by omega)) hr (takes_of rfl rfl rfl rfl) (qa_cons (qe_var 0) (qa_cons (qe_var 1) qa_nil))))
    (qb_cons (qs_set (i := 2) sc_meet.nd (QO.e (qo_lc [("word", 3)] (by rfl) sc_meet.nd (qi_seq (qe_con X.k_CONDITIONS)) (show blkC N_meet (defScope s_meet) _ _ = true by decide +kernel) (fun _ _ _ _ _ => (qg_name sc_meet.nd)) (fun _ _ _ _ _ => (qts_one (QW.t (qw_and (qt_val (QE.p (qe_callF ((ok_is_below X).up (by omega)) hr takes0 (qa_cons (qe_var 3) (qa_cons (qe_var 0) qa_nil))))) (qw_and1 (qt_val (QE.p (qe_callF ((ok_is_below X).up (by omega)) hr takes0 (qa_cons (qe_var 3) (qa_cons (qe_var 1) qa_nil)))))))))) (fun _ _ _ _ _ => (qe_var 3)))))
    (qb_one (qs_ret (qe_ix (QE.p (QO.e (qo_lc [("word", 3)] (by rfl) sc_meet.nd (qi_seq (qe_var 2)) (show blkC N_meet (defScope s_meet) _ _ = true by decide +kernel) (fun _ _ _ _ _ => (qg_name sc_meet.nd)) (fun _ _ _ _ _ => (qts_one (qt_val (QE.p (qe_all (by rfl) (by rfl) X.n_all (QE.p (QO.e (qo_lc [("less", 4)] (by rfl) sc_meet.nd (qi_seq (qe_var 2)) (by kernel_rfl) (fun _ _ _ _ _ => (qg_name sc_meet.nd)) (fun _ _ _ _ _ => qts_nil) (fun _ _ _ _ _ => (qe_callF ((ok_is_below X).up (by omega)) hr takes0 (qa_cons (qe_var 4) (qa_cons (qe_var 3) qa_nil)))))))))))) (fun _ _ _ _ _ => (qe_var 3))))) (QE.p qe_int))))))
def b_join : MM.Env → T Fl :=
  (sSeq (sDrop (eFn 2 m_need_both (aCons (eVar 0) (aCons (eVar 1) aNil))))
    (sSeq (sSet 2 (eComp (iSq (eC c_CONDITIONS)) [3] (sName 3) (MM.tAnd (MM.tB (eFn 2 m_is_below (aCons (eVar 0) (aCons (eVar 3) aNil)))) (MM.tB (eFn 2 m_is_below (aCons (eVar 1) (aCons (eVar 3) aNil))))) (eVar 3)))
    (sRet (e2 ixD (eComp (iSq (eVar 2)) [3] (sName 3) (MM.tB (eCall allD (aCons (eComp (iSq (eVar 2)) [4] (sName 4) tYesB (eFn 2 m_is_below (aCons (eVar 3) (aCons (eVar 4) aNil)))) aNil))) (eVar 3)) (eC (.int 0))))))
def m_join : List D → T D := runB 5 b_join
theorem ok_join (X : TX K w mg base tl) : OkF P w K mg base tl 4 2 "join" ["one", "other"] m_join := OkF.mk X.d_join sc_join rfl fun f cdv A outer s H E hr =>
    (qb_cons (qs_expr (qe_callF ((ok_need_both X).up (by omega)) hr (takes_of rfl rfl rfl rfl) (qa_cons (qe_var 0) (qa_cons (qe_var 1) qa_nil))))
    (qb_cons (qs_set (i := 2) sc_join.nd (QO.e (qo_lc [("word", 3)] (by rfl) sc_join.nd (qi_seq (qe_con X.k_CONDITIONS)) (show blkC N_join (defScope s_join) _ _ = true by decide +kernel) (fun _ _ _ _ _ => (qg_name sc_join.nd)) (fun _ _ _ _ _ => (qts_one (QW.t (qw_and (qt_val (QE.p (qe_callF ((ok_is_below X).up (by omega)) hr takes0 (qa_cons (qe_var 0) (qa_cons (qe_var 3) qa_nil))))) (qw_and1 (qt_val (QE.p (qe_callF ((ok_is_below X).up (by omega)) hr takes0 (qa_cons (qe_var 1) (qa_cons (qe_var 3) qa_nil)))))))))) (fun _ _ _ _ _ => (qe_var 3)))))
    (qb_one (qs_ret (qe_ix (QE.p (QO.e (qo_lc [("word", 3)] (by rfl) sc_join.nd (qi_seq (qe_var 2)) (show blkC N_join (defScope s_join) _ _ = true by decide +kernel) (fun _ _ _ _ _ => (qg_name sc_join.nd)) (fun _ _ _ _ _ => (qts_one (qt_val (QE.p (qe_all (by rfl) (by rfl) X.n_all (QE.p (QO.e (qo_lc [("more", 4)] (by rfl) sc_join.nd (qi_seq (qe_var 2)) (by kernel_rfl) (fun _ _ _ _ _ => (qg_name sc_join.nd)) (fun _ _ _ _ _ => qts_nil) (fun _ _ _ _ _ => (qe_callF ((ok_is_below X).up (by omega)) hr takes0 (qa_cons (qe_var 3) (qa_cons (qe_var 4) qa_nil)))))))))))) (fun _ _ _ _ _ => (qe_var 3))))) (QE.p qe_int))))))
def b_steps_between : MM.Env → T Fl :=
  (sSeq (sDrop (eFn 2 m_need_both (aCons (eVar 0) (aCons (eVar 1) aNil))))
    (sRet (eCall tupleD (aCons (eComp (iSq (eC c_CONDITIONS)) [2] (sName 2) (MM.tAnd (MM.tB (eFn 2 m_is_below (aCons (eVar 0) (aCons (eVar 2) aNil)))) (MM.tB (eFn 2 m_is_below (aCons (eVar 2) (aCons (eVar 1) aNil))))) (eVar 2)) aNil))))
def m_steps_between : List D → T D := runB 3 b_steps_between
theorem ok_steps_between (X : TX K w mg base tl) : OkF P w K mg base tl 4 2 "steps_between" ["one", "other"] m_steps_between := OkF.mk X.d_steps_between sc_steps_between rfl fun f cdv A outer s H E hr =>
    (qb_cons (qs_expr (qe_callF ((ok_need_both X).up (by omega)) hr (takes_of rfl rfl rfl rfl) (qa_cons (qe_var 0) (qa_cons (qe_var 1) qa_nil))))
    (qb_one (qs_ret (qe_tuple (by rfl) X.n_tuple (QE.p (QO.e (qo_lc [("word", 2)] (by rfl) sc_steps_between.nd (qi_seq (qe_con X.k_CONDITIONS)) (show blkC N_steps_between (defScope s_steps_between) _ _ = true by decide +kernel) (fun _ _ _ _ _ => (qg_name sc_steps_between.nd)) (fun _ _ _ _ _ => (qts_one (QW.t (qw_and (qt_val (QE.p (qe_callF ((ok_is_below X).up (by omega)) hr takes0 (qa_cons (qe_var 0) (qa_cons (qe_var 2) qa_nil))))) (qw_and1 (qt_val (QE.p (qe_callF ((ok_is_below X).up (by omega)) hr takes0 (qa_cons (qe_var 2) (qa_cons (qe_var 1) qa_nil)))))))))) (fun _ _ _ _ _ => (qe_var 2)))))))))
theorem ok__law_some (X : TX K w mg base tl) : OkF P w K mg base tl 2 2 "_law_some" ["cup", "things"] m_some := OkF.mk X.d__law_some sc__law_some rfl fun f cdv A outer s H E hr =>
    (qb_one (qs_ret (qe_ix (QE.p (qe_var 1)) (QE.p (qe_callF ((ok__law_roll X).up (by omega)) hr (takes_of rfl rfl rfl rfl) (qa_cons (qe_var 0) (qa_cons (qe_len (by rfl) X.n_len (QE.p (qe_var 1))) qa_nil)))))))
theorem ok__law_sort (X : TX K w mg base tl) : OkF P w K mg base tl 1 1 "_law_sort" ["value"] m_sort := OkF.mk X.d__law_sort sc__law_sort rfl fun f cdv A outer s H E hr =>
    (qb_cons (qs_if (QW.t (qw_or (qt_cm cm_is (QE.p (qe_var 0)) (QE.p qe_non)) (qw_or1 (qt_val (QE.p (qe_isi (t := "bool") rfl (by rfl) X.n_isinstance (by rfl) X.n_bool (by decide +kernel) (QE.p (qe_var 0)))))))) (qb_one (qs_ret (qe_if (qt_cm cm_is (QE.p (qe_var 0)) (QE.p qe_non)) qe_int qe_int))) qb_nil)
    (qb_cons (qs_if (QW.t (qw_or (qt_val (QE.p (qe_isi (t := "int") rfl (by rfl) X.n_isinstance (by rfl) X.n_int (by decide +kernel) (QE.p (qe_var 0))))) (qw_or1 (qt_val (QE.p (qe_isi (t := "str") rfl (by rfl) X.n_isinstance (by rfl) X.n_str (by decide +kernel) (QE.p (qe_var 0)))))))) (qb_one (qs_ret (qe_if (qt_val (QE.p (qe_isi (t := "int") rfl (by rfl) X.n_isinstance (by rfl) X.n_int (by decide +kernel) (QE.p (qe_var 0))))) qe_int qe_int))) qb_nil)
    (qb_one (qs_ret (qe_if (qt_val (QE.p (qe_isi (t := "tuple") rfl (by rfl) X.n_isinstance (by rfl) X.n_tuple (by decide +kernel) (QE.p (qe_var 0))))) qe_int (qe_if (qt_val (QE.p (qe_isi (t := "list") rfl (by rfl) X.n_isinstance (by rfl) X.n_list (by decide +kernel) (QE.p (qe_var 0))))) qe_int qe_int))))))
theorem okr__law_like (X : TX K w mg base tl) : ∀ k, OkF P w K mg base tl (k + 1) 2 "_law_like" ["one", "other"] (r_like k)
  | 0 => OkF.bad X.d__law_like
  | k + 1 => by
    have ih := okr__law_like X k
    rw [show k + 1 + 1 = (k + 1) + 1 by omega]
    exact OkF.mk X.d__law_like sc__law_like rfl fun f cdv A outer s H E hr =>
    (qb_cons (qs_set (i := 2) sc__law_like.nd (qe_callF ((ok__law_sort X).up (by omega)) hr (takes_of rfl rfl rfl rfl) (qa_cons (qe_var 1) qa_nil)))
    (qb_cons (qs_if (QW.t (qw_or (qt_cm (cm_ne hr.units) (QE.p (qe_callF ((ok__law_sort X).up (by omega)) hr (takes_of rfl rfl rfl rfl) (qa_cons (qe_var 0) qa_nil))) (QE.p (qe_var 2))) (qw_or1 (qt_cm (cm_eq hr.units) (QE.p (qe_var 2)) (QE.p qe_int))))) (qb_one (qs_ret qe_bl)) qb_nil)
    (qb_cons (qs_if (qt_cm (cm_in (u65 hr)) (QE.p (qe_var 2)) (QE.p (qe_tup (qa_cons qe_int (qa_cons qe_int qa_nil))))) (qb_one (qs_ret (qe_and (QE.p (qe_cm (cm_eq hr.units) (QE.p (qe_len (by rfl) X.n_len (QE.p (qe_var 0)))) (QE.p (qe_len (by rfl) X.n_len (QE.p (qe_var 1)))))) (qe_one (qe_cm (cm_eq hr.units) (QE.p (QO.e (qo_lc [("first", 3), ("second", 4)] (by rfl) sc__law_like.nd (qi_zip (by rfl) X.n_zip (qa_cons (qe_var 0) (qa_cons (qe_var 1) qa_nil))) (show blkC N__law_like (defScope s__law_like) _ _ = true by decide +kernel) (fun _ _ _ _ _ => (qg_tup [3, 4] (by rfl) (pgs_cons (pg_name (i := 3) sc__law_like.nd rfl (by first | exact Or.inl rfl | exact Or.inr rfl)) (pgs_cons (pg_name (i := 4) sc__law_like.nd rfl (by first | exact Or.inl rfl | exact Or.inr rfl)) pgs_nil)))) (fun _ _ _ _ _ => (qts_one (qt_not (qt_val (QE.p (qe_callF ih hr takes0 (qa_cons (qe_var 3) (qa_cons (qe_var 4) qa_nil)))))))) (fun _ _ _ _ _ => qe_int)))) (QE.p (QO.e (qo_lst qa_nil)))))))) qb_nil)
    (qb_one (qs_ret (qe_cm (cm_eq hr.units) (QE.p (qe_var 0)) (QE.p (qe_var 1))))))))
theorem ok__law_like (X : TX K w mg base tl) : OkF P w K mg base tl 9 2 "_law_like" ["one", "other"] (r_like 8) := okr__law_like X 8
def b__law_conditions : MM.Env → T Fl :=
  (sSeq (sSet 0 (eLst (aCons (eC (.str [97, 116, 111, 109, 105, 99])) (aCons (eC (.str [99, 97, 117, 115, 97, 108])) (aCons (eC (.str [112, 97, 114, 97, 108, 108, 101, 108])) (aCons (eC (.str [112, 114, 101, 102, 105, 120])) (aCons (eC (.str [115, 110, 97, 112, 115, 104, 111, 116])) (aCons (eC (.str [115, 101, 114, 105, 97, 108])) aNil))))))))
    (sRet (e2 addD (eVar 0) (eComp (iSq (eVar 0)) [1] (sName 1) tYesB (e2 addD (eC (.str [115, 116, 114, 105, 99, 116, 32])) (eVar 1))))))
def m__law_conditions : List D → T D := runB 2 b__law_conditions
theorem ok__law_conditions (X : TX K w mg base tl) : OkF P w K mg base tl 1 0 "_law_conditions" [] m__law_conditions := OkF.mk X.d__law_conditions sc__law_conditions rfl fun f cdv A outer s H E hr =>
    (qb_cons (qs_set (i := 0) sc__law_conditions.nd (QO.e (qo_lst (qa_cons (qe_str [97, 116, 111, 109, 105, 99]) (qa_cons (qe_str [99, 97, 117, 115, 97, 108]) (qa_cons (qe_str [112, 97, 114, 97, 108, 108, 101, 108]) (qa_cons (qe_str [112, 114, 101, 102, 105, 120]) (qa_cons (qe_str [115, 110, 97, 112, 115, 104, 111, 116]) (qa_cons (qe_str [115, 101, 114, 105, 97, 108]) qa_nil)))))))))
    (qb_one (qs_ret (qe_add (QE.p (qe_var 0)) (QE.p (QO.e (qo_lc [("word", 1)] (by rfl) sc__law_conditions.nd (qi_seq (qe_var 0)) (show blkC N__law_conditions (defScope s__law_conditions) _ _ = true by decide +kernel) (fun _ _ _ _ _ => (qg_name sc__law_conditions.nd)) (fun _ _ _ _ _ => qts_nil) (fun _ _ _ _ _ => (qe_add (QE.p (qe_str [115, 116, 114, 105, 99, 116, 32])) (QE.p (qe_var 1)))))))))))
def b__law_below : MM.Env → T Fl :=
  (sSeq (sPar 2 3 (aCons (eLst (aCons (e2 ixD (eMeth "str" splitD (eVar 0) (aCons (eC (.str [32])) aNil)) (e1 negD (eC (.int 1)))) (aCons (e2 ixD (eMeth "str" splitD (eVar 1) (aCons (eC (.str [32])) aNil)) (e1 negD (eC (.int 1)))) aNil))) (aCons (eLst (aCons (e2 inD (eC (.str [115, 116, 114, 105, 99, 116])) (eVar 0)) (aCons (e2 inD (eC (.str [115, 116, 114, 105, 99, 116])) (eVar 1)) aNil))) aNil)))
    (sSeq (sIf (MM.tB (e2 eqD (eVar 3) (eLst (aCons (eC (.bl true)) (aCons (eC (.bl false)) aNil))))) (sRet (eC (.bl false))) sNx)
    (sSeq (sFor (iSq (eTup (aCons (eC (.str [112, 97, 114, 97, 108, 108, 101, 108])) (aCons (eC (.str [112, 114, 101, 102, 105, 120])) aNil)))) (sName 4) (sSeq (sSet 5 (eLst (aCons (eC (.str [97, 116, 111, 109, 105, 99])) (aCons (eC (.str [99, 97, 117, 115, 97, 108])) (aCons (eVar 4) (aCons (eC (.str [115, 110, 97, 112, 115, 104, 111, 116])) (aCons (eC (.str [115, 101, 114, 105, 97, 108])) aNil)))))))
    (sIf (MM.tAnd (MM.tB (e2 inD (e2 ixD (eVar 2) (eC (.int 0))) (eVar 5))) (MM.tAnd (MM.tB (e2 inD (e2 ixD (eVar 2) (eC (.int 1))) (eVar 5))) (MM.tB (e2 leI (eMeth "list" indexD (eVar 5) (aCons (e2 ixD (eVar 2) (eC (.int 0))) aNil)) (eMeth "list" indexD (eVar 5) (aCons (e2 ixD (eVar 2) (eC (.int 1))) aNil)))))) (sRet (eC (.bl true))) sNx)))
    (sRet (eC (.bl false))))))
def m__law_below : List D → T D := runB 6 b__law_below
theorem ok__law_below (X : TX K w mg base tl) : OkF P w K mg base tl 1 2 "_law_below" ["one", "other"] m__law_below := OkF.mk X.d__law_below sc__law_below rfl fun f cdv A outer s H E hr =>
    (qb_cons (qs_par (i := 2) (j := 3) (by rfl) sc__law_below.nd (qa_cons (QO.e (qo_lst (qa_cons (qe_ix (QE.p (qe_split (QE.p (qe_var 0)) (QE.p (qe_str [32])))) (QE.p (qe_neg (QE.p qe_int)))) (qa_cons (qe_ix (QE.p (qe_split (QE.p (qe_var 1)) (QE.p (qe_str [32])))) (QE.p (qe_neg (QE.p qe_int)))) qa_nil)))) (qa_cons (QO.e (qo_lst (qa_cons (qe_cm (cm_in (u65 hr)) (QE.p (qe_str [115, 116, 114, 105, 99, 116])) (QE.p (qe_var 0))) (qa_cons (qe_cm (cm_in (u65 hr)) (QE.p (qe_str [115, 116, 114, 105, 99, 116])) (QE.p (qe_var 1))) qa_nil)))) qa_nil)))
    (qb_cons (qs_if (qt_cm (cm_eq hr.units) (QE.p (qe_var 3)) (QE.p (QO.e (qo_lst (qa_cons qe_bl (qa_cons qe_bl qa_nil)))))) (qb_one (qs_ret qe_bl)) qb_nil)
    (qb_cons (qs_for (passes_of rfl) (by rfl) (qi_seq (qe_tup (qa_cons (qe_str [112, 97, 114, 97, 108, 108, 101, 108]) (qa_cons (qe_str [112, 114, 101, 102, 105, 120]) qa_nil)))) (qg_name sc__law_below.nd) (qb_cons (qs_set (i := 5) sc__law_below.nd (QO.e (qo_lst (qa_cons (qe_str [97, 116, 111, 109, 105, 99]) (qa_cons (qe_str [99, 97, 117, 115, 97, 108]) (qa_cons (qe_var 4) (qa_cons (qe_str [115, 110, 97, 112, 115, 104, 111, 116]) (qa_cons (qe_str [115, 101, 114, 105, 97, 108]) qa_nil))))))))
    (qb_one (qs_if (QW.t (qw_and (qt_cm (cm_in (u65 hr)) (QE.p (qe_ix (QE.p (qe_var 2)) (QE.p qe_int))) (QE.p (qe_var 5))) (qw_and (qt_cm (cm_in (u65 hr)) (QE.p (qe_ix (QE.p (qe_var 2)) (QE.p qe_int))) (QE.p (qe_var 5))) (qw_and1 (qt_cm cm_le (QE.p (qe_index (QE.p (qe_var 5)) (QE.p (qe_ix (QE.p (qe_var 2)) (QE.p qe_int))))) (QE.p (qe_index (QE.p (qe_var 5)) (QE.p (qe_ix (QE.p (qe_var 2)) (QE.p qe_int)))))))))) (qb_one (qs_ret qe_bl)) qb_nil))))
    (qb_one (qs_ret qe_bl)))))
def b__law_error (m : T D) : MM.Env → T Fl :=
  (sSeq (sTry subs (sThk m) (("InvalidCondition", (sRet (eC (.str [99, 111, 110, 100, 105, 116, 105, 111, 110])))) :: (("OrderError", (sRet (eC (.str [111, 116, 104, 101, 114])))) :: [])))
    (sRet (eC (.str []))))
theorem ok__law_error (X : TX K w mg base tl) : OkTh K mg tl "_law_error" "call" s__law_error N__law_error (runT N__law_error.length b__law_error) := ⟨X.d__law_error, sc__law_error, fun X' g cdg q hK hm => by
    subst hK
    subst hm
    exact gives_of (by decide) fun f s H C m A =>
    (qb_cons (qs_try X.sub takes0 (am_cons X.c_InvalidCondition.at_ (am_cons X.c_OrderError.at_ am_nil)) (fun W pn xe tk => (qb_one (A.st W pn xe tk _ _ _))) (QHs.cons (by rfl) (by decide) (fun a pn => (qb_one (qs_ret (qe_str [99, 111, 110, 100, 105, 116, 105, 111, 110])))) (QHs.cons (by rfl) (by decide) (fun a pn => (qb_one (qs_ret (qe_str [111, 116, 104, 101, 114])))) QHs.nil)))
    (qb_one (qs_ret (qe_str []))))⟩
def b__law_met : MM.Env → T Fl :=
  (sSeq (sSet 3 (eComp (iSq (eVar 2)) [4] (sName 4) (MM.tAnd (MM.tB (eFn 2 m__law_below (aCons (eVar 4) (aCons (eVar 0) aNil)))) (MM.tB (eFn 2 m__law_below (aCons (eVar 4) (aCons (eVar 1) aNil))))) (eVar 4)))
    (sSeq (sSet 5 (eComp (iSq (eVar 2)) [4] (sName 4) (MM.tAnd (MM.tB (eFn 2 m__law_below (aCons (eVar 0) (aCons (eVar 4) aNil)))) (MM.tB (eFn 2 m__law_below (aCons (eVar 1) (aCons (eVar 4) aNil))))) (eVar 4)))
    (sSeq (sOwn 6 (eComp (iSq (eVar 3)) [4] (sName 4) (MM.tB (e2 eqD (eComp (iSq (eVar 3)) [7] (sName 7) (MM.tNot (MM.tB (eFn 2 m__law_below (aCons (eVar 7) (aCons (eVar 4) aNil))))) (eVar 7)) (eLst aNil))) (eVar 4)))
    (sFrz 6 (sSeq (sOwn 8 (eComp (iSq (eVar 5)) [4] (sName 4) (MM.tB (e2 eqD (eComp (iSq (eVar 5)) [9] (sName 9) (MM.tNot (MM.tB (eFn 2 m__law_below (aCons (eVar 4) (aCons (eVar 9) aNil))))) (eVar 9)) (eLst aNil))) (eVar 4)))
    (sFrz 8 (sRet (eTup (aCons (eVar 6) (aCons (eVar 8) aNil))))))))))
def m__law_met : List D → T D := runB 10 b__law_met
theorem ok__law_met (X : TX K w mg base tl) : OkF P w K mg base tl 2 3 "_law_met" ["one", "other", "all_words"] m__law_met := OkF.mk X.d__law_met sc__law_met rfl fun f cdv A outer s H E hr =>
    (qb_cons (qs_set (i := 3) sc__law_met.nd (QO.e (qo_lc [("word", 4)] (by rfl) sc__law_met.nd (qi_seq (qe_var 2)) (show blkC N__law_met (defScope s__law_met) _ _ = true by decide +kernel) (fun _ _ _ _ _ => (qg_name sc__law_met.nd)) (fun _ _ _ _ _ => (qts_one (QW.t (qw_and (qt_val (QE.p (qe_callF ((ok__law_below X).up (by omega)) hr takes0 (qa_cons (qe_var 4) (qa_cons (qe_var 0) qa_nil))))) (qw_and1 (qt_val (QE.p (qe_callF ((ok__law_below X).up (by omega)) hr takes0 (qa_cons (qe_var 4) (qa_cons (qe_var 1) qa_nil)))))))))) (fun _ _ _ _ _ => (qe_var 4)))))
    (qb_cons (qs_set (i := 5) sc__law_met.nd (QO.e (qo_lc [("word", 4)] (by rfl) sc__law_met.nd (qi_seq (qe_var 2)) (show blkC N__law_met (defScope s__law_met) _ _ = true by decide +kernel) (fun _ _ _ _ _ => (qg_name sc__law_met.nd)) (fun _ _ _ _ _ => (qts_one (QW.t (qw_and (qt_val (QE.p (qe_callF ((ok__law_below X).up (by omega)) hr takes0 (qa_cons (qe_var 0) (qa_cons (qe_var 4) qa_nil))))) (qw_and1 (qt_val (QE.p (qe_callF ((ok__law_below X).up (by omega)) hr takes0 (qa_cons (qe_var 1) (qa_cons (qe_var 4) qa_nil)))))))))) (fun _ _ _ _ _ => (qe_var 4)))))
    (qb_cons (qs_setLc [("word", 4)] (by rfl) sc__law_met.nd (qi_seq (qe_var 3)) (show blkC N__law_met (defScope s__law_met) _ _ = true by decide +kernel) (fun _ _ _ _ _ => (qg_name sc__law_met.nd)) (fun _ _ _ _ _ => (qts_one (qt_cm (cm_eq hr.units) (QE.p (QO.e (qo_lc [("less", 7)] (by rfl) sc__law_met.nd (qi_seq (qe_var 3)) (by kernel_rfl) (fun _ _ _ _ _ => (qg_name sc__law_met.nd)) (fun _ _ _ _ _ => (qts_one (qt_not (qt_val (QE.p (qe_callF ((ok__law_below X).up (by omega)) hr takes0 (qa_cons (qe_var 7) (qa_cons (qe_var 4) qa_nil)))))))) (fun _ _ _ _ _ => (qe_var 7))))) (QE.p (QO.e (qo_lst qa_nil)))))) (fun _ _ _ _ _ => (qe_var 4)) (sw_true rfl rfl rfl (by decide +kernel)))
    (qb_frz 6 (qb_cons (qs_setLc [("word", 4)] (by rfl) sc__law_met.nd (qi_seq (qe_var 5)) (show blkC N__law_met (defScope s__law_met) _ _ = true by decide +kernel) (fun _ _ _ _ _ => (qg_name sc__law_met.nd)) (fun _ _ _ _ _ => (qts_one (qt_cm (cm_eq hr.units) (QE.p (QO.e (qo_lc [("more", 9)] (by rfl) sc__law_met.nd (qi_seq (qe_var 5)) (by kernel_rfl) (fun _ _ _ _ _ => (qg_name sc__law_met.nd)) (fun _ _ _ _ _ => (qts_one (qt_not (qt_val (QE.p (qe_callF ((ok__law_below X).up (by omega)) hr takes0 (qa_cons (qe_var 4) (qa_cons (qe_var 9) qa_nil)))))))) (fun _ _ _ _ _ => (qe_var 9))))) (QE.p (QO.e (qo_lst qa_nil)))))) (fun _ _ _ _ _ => (qe_var 4)) (sw_true rfl rfl rfl (by decide +kernel)))
    (qb_frz 8 (qb_one (qs_ret (qe_tup (qa_cons (qe_var 6) (qa_cons (qe_var 8) qa_nil)))))))))))
def b__law_odd_calls : MM.Env → T Fl :=
  (sSeq (sOwn 1 (eLst aNil))
    (sSeq (sFor (iSq (eTup (aCons (eC (.fn [97, 116, 95, 109, 111, 115, 116])) (aCons (eC (.fn [109, 101, 101, 116])) (aCons (eC (.fn [106, 111, 105, 110])) (aCons (eC (.fn [115, 116, 101, 112, 115, 95, 98, 101, 116, 119, 101, 101, 110])) aNil)))))) (sName 2) (sSeq (sApp 1 (eLam (runT N__law_error.length b__law_error) (eLoc 2 (([97, 116, 95, 109, 111, 115, 116], 2, m_at_most) :: (([106, 111, 105, 110], 2, m_join) :: (([109, 101, 101, 116], 2, m_meet) :: (([115, 116, 101, 112, 115, 95, 98, 101, 116, 119, 101, 101, 110], 2, m_steps_between) :: [])))) (aCons (eVar 0) (aCons (eC .non) aNil)))))
    (sApp 1 (eLam (runT N__law_error.length b__law_error) (eLoc 2 (([97, 116, 95, 109, 111, 115, 116], 2, m_at_most) :: (([106, 111, 105, 110], 2, m_join) :: (([109, 101, 101, 116], 2, m_meet) :: (([115, 116, 101, 112, 115, 95, 98, 101, 116, 119, 101, 101, 110], 2, m_steps_between) :: [])))) (aCons (eC (.str [115, 116, 114, 105, 99, 116, 32, 99, 97, 117, 115, 97, 108])) (aCons (eVar 0) aNil)))))))
    (sFrz 1 (sRet (eVar 1)))))
def m__law_odd_calls : List D → T D := runB 3 b__law_odd_calls
theorem ok__law_odd_calls (X : TX K w mg base tl) : OkF P w K mg base tl 7 1 "_law_odd_calls" ["odd"] m__law_odd_calls := OkF.mkC X.m__law_odd_calls sc__law_odd_calls rfl fun c Pt TB h1 h2 f A outer s H E hr =>
    (qb_cons (qs_own (i := 1) sc__law_odd_calls.nd (qo_lst qa_nil))
    (qb_cons (qs_for (passes_of rfl) (by rfl) (qi_seq (qe_tup (qa_cons (qe_fnv X.d_at_most) (qa_cons (qe_fnv X.d_meet) (qa_cons (qe_fnv X.d_join) (qa_cons (qe_fnv X.d_steps_between) qa_nil)))))) (qg_name sc__law_odd_calls.nd) (qb_cons (qs_app 1 (ha := (qe_lam (ok__law_error X) hr TB (by rfl) h1 h2 (fun A outer s H E f c' hr => (qe_callL 2 (dp_cons ((ok_at_most X).up (by omega)) (by decide +kernel) (dp_cons ((ok_join X).up (by omega)) (by decide +kernel) (dp_cons ((ok_meet X).up (by omega)) (by decide +kernel) (dp_cons ((ok_steps_between X).up (by omega)) (by decide +kernel) dp_nil)))) hr (takes_of rfl rfl rfl rfl) (qa_cons (qe_var 0) (qa_cons qe_non qa_nil)))))))
    (qb_one (qs_app 1 (ha := (qe_lam (ok__law_error X) hr TB (by rfl) h1 h2 (fun A outer s H E f c' hr => (qe_callL 2 (dp_cons ((ok_at_most X).up (by omega)) (by decide +kernel) (dp_cons ((ok_join X).up (by omega)) (by decide +kernel) (dp_cons ((ok_meet X).up (by omega)) (by decide +kernel) (dp_cons ((ok_steps_between X).up (by omega)) (by decide +kernel) dp_nil)))) hr (takes_of rfl rfl rfl rfl) (qa_cons (qe_str [115, 116, 114, 105, 99, 116, 32, 99, 97, 117, 115, 97, 108]) (qa_cons (qe_var 0) qa_nil))))))))))
    (qb_frz 1 (qb_one (qs_ret (qe_var 1))))))
def b_law : MM.Env → T Fl :=
  (sSeq (sFor (iSq (eVar 2)) (sName 3) (sFor (iSq (eVar 2)) (sName 4) (sSeq (sAsg (sTup [5, 6]) (eFn 3 m__law_met (aCons (eVar 3) (aCons (eVar 4) (aCons (eVar 2) aNil)))))
    (sSeq (sSet 7 (eLst (aCons (eFn 2 m__law_below (aCons (eVar 3) (aCons (eVar 4) aNil))) (aCons (eComp (iSq (eVar 2)) [8] (sName 8) (MM.tAnd (MM.tB (eFn 2 m__law_below (aCons (eVar 3) (aCons (eVar 8) aNil)))) (MM.tB (eFn 2 m__law_below (aCons (eVar 8) (aCons (eVar 4) aNil))))) (eVar 8)) aNil))))
    (sSeq (sIf (MM.tOr (MM.tNot (MM.tB (eFn 2 (r_like 8) (aCons (eLst (aCons (eFn 2 m_at_most (aCons (eVar 3) (aCons (eVar 4) aNil))) (aCons (eCall listD (aCons (eFn 2 m_steps_between (aCons (eVar 3) (aCons (eVar 4) aNil))) aNil)) aNil))) (aCons (eVar 7) aNil))))) (MM.tNot (MM.tB (eFn 2 (r_like 8) (aCons (eFn 2 m_steps_between (aCons (eVar 3) (aCons (eVar 4) aNil))) (aCons (eCall tupleD (aCons (e2 ixD (eVar 7) (eC (.int 1))) aNil)) aNil)))))) (sRet (eC (.bl false))) sNx)
    (sIf (MM.tNot (MM.tB (eFn 2 (r_like 8) (aCons (eLst (aCons (eLst (aCons (eFn 2 m_meet (aCons (eVar 3) (aCons (eVar 4) aNil))) aNil)) (aCons (eLst (aCons (eFn 2 m_join (aCons (eVar 3) (aCons (eVar 4) aNil))) aNil)) aNil))) (aCons (eLst (aCons (eVar 5) (aCons (eVar 6) aNil))) aNil))))) (sRet (eC (.bl false))) sNx))))))
    (sSeq (sSet 9 (eLst (aCons (eC .non) (aCons (eC (.str [])) (aCons (eC (.str [65, 116, 111, 109, 105, 99])) (aCons (eC (.str [115, 116, 114, 105, 99, 116])) (aCons (eC (.str [115, 116, 114, 105, 99, 116, 32])) (aCons (eC (.str [115, 101, 114, 105, 97, 108, 32])) (aCons (eC (.str [32, 115, 101, 114, 105, 97, 108])) (aCons (eC (.str [115, 116, 114, 105, 99, 116, 32, 32, 115, 101, 114, 105, 97, 108])) (aCons (eC (.str [115, 116, 114, 105, 99, 116, 32, 115, 116, 114, 105, 99, 116, 32, 115, 101, 114, 105, 97, 108])) (aCons (eLst (aCons (eC (.str [115, 101, 114, 105, 97, 108])) aNil)) (aCons (eTup (aCons (eC (.str [115, 101, 114, 105, 97, 108])) aNil)) (aCons (eC (.bl true)) (aCons (eC (.int 0)) (aCons (eC (.str [120])) aNil))))))))))))))))
    (sSeq (sIf (MM.tB (e2 neD (eComp (iSq (eVar 9)) [10] (sName 10) (MM.tB (e2 neD (eFn 1 m__law_odd_calls (aCons (eVar 10) aNil)) (e2 mulD (eLst (aCons (eC (.str [99, 111, 110, 100, 105, 116, 105, 111, 110])) aNil)) (eC (.int 8))))) (eVar 10)) (eLst aNil))) (sRet (eC (.bl false))) sNx)
    (sSeq (sSet 8 (eFn 2 m_some (aCons (eVar 1) (aCons (eVar 2) aNil))))
    (sSeq (sSet 11 (eFn 2 rollM (aCons (eVar 1) (aCons (eCall lenD (aCons (eVar 8) aNil)) aNil))))
    (sSeq (sSet 12 (e2 addD (e2 addD (eCut (eVar 8) oNo (oSo (eVar 11))) (eFn 2 m_some (aCons (eVar 1) (aCons (eLst (aCons (eC (.str [])) (aCons (eC (.str [97])) (aCons (eC (.str [69])) (aCons (eC (.str [32])) aNil))))) aNil)))) (eCut (eVar 8) (oSo (e2 addD (eVar 11) (eC (.int 1)))) oNo)))
    (sRet (eOr (e2 inD (eVar 12) (eVar 2)) (e2 eqD (eFn 1 m__law_odd_calls (aCons (eVar 12) aNil)) (e2 mulD (eLst (aCons (eC (.str [99, 111, 110, 100, 105, 116, 105, 111, 110])) aNil)) (eC (.int 8))))))))))))
def e_law : MM.Env → T D := (eFn 0 m__law_conditions aNil)
theorem ok_law (X : TX K w mg base tl) (hpure : ((e_law (List.replicate 13 .no)).bind fun d => b_law ((lawEnv 13 1).set 2 (.frz d))).wp lawPost fun _ => False) {f : Addr} {fd : FuncData} (Fl : Fun K "law" "law" s_law f fd) : FnOk P w K mg base (L2.CX P w) 10 f fd ["script"] (spLaw K tl) := by
  obtain ⟨fc, fdc, gc, kc, bc, GC⟩ := ok__law_cup (P := P) (w := w) (base := base) X
  refine Fl.okX sc_law (fun vs H Q E h => ?_) (fun cdv A outer s H vs Q E hr h => ?_)
  · obtain ⟨a, ns, rfl, _⟩ := h
    rfl
  · obtain ⟨a, ns, rfl, hS, hl, ht, hQ⟩ := h
    refine law_body2 (X := cxOf (L2.CX P w) P w K mg base N_law "law" (defScope s_law) f cdv A outer s H E) (tb := tl) (W := fun cls d _ H' => E cls d H') (h := b_law) (fe := e_law) (i := 1) (j := 2) (Ec := fun _ => E) (show 0 < N_law.length by decide) (show 1 < N_law.length by decide) (show 2 < N_law.length by decide) (by decide)
      (ps_par (i := 1) (j := 2) rfl sc_law.nd rfl rfl (by decide) rfl rfl (pa_cons (pe_callS (GC.mono (by decide)) hr (by rfl) gc kc bc (fun σ => passAt (takes_of rfl rfl rfl rfl) σ) (pa_cons (pv 0) pa_nil)) (pa_cons (QE.pe (f := e_law) (tb := tb0 tl) (W := fun cls d _ H' => E cls d H') (qe_callF0 ((ok__law_conditions X).up (by omega)) hr (takes_of rfl rfl rfl rfl))) pa_nil)) (by rfl)) ?_ hS hl ht hQ hpure
    exact (qb_cons (qs_for (passes_of rfl) (by rfl) (qi_seq (qe_var 2)) (qg_name sc_law.nd) (qb_one (qs_for (passes_of rfl) (by rfl) (qi_seq (qe_var 2)) (qg_name sc_law.nd) (qb_cons (qs_asg (qe_callF ((ok__law_met X).up (by omega)) hr (takes_of rfl rfl rfl rfl) (qa_cons (qe_var 3) (qa_cons (qe_var 4) (qa_cons (qe_var 2) qa_nil)))) (qg_tup [5, 6] (by rfl) (pgs_cons (pg_name (i := 5) sc_law.nd rfl (by first | exact Or.inl rfl | exact Or.inr rfl)) (pgs_cons (pg_name (i := 6) sc_law.nd rfl (by first | exact Or.inl rfl | exact Or.inr rfl)) pgs_nil))))
    (qb_cons (qs_set (i := 7) sc_law.nd (QO.e (qo_lst (qa_cons (qe_callF ((ok__law_below X).up (by omega)) hr (takes_of rfl rfl rfl rfl) (qa_cons (qe_var 3) (qa_cons (qe_var 4) qa_nil))) (qa_cons (QO.e (qo_lc [("word", 8)] (by rfl) sc_law.nd (qi_seq (qe_var 2)) (show blkC N_law (defScope s_law) _ _ = true by decide +kernel) (fun _ _ _ _ _ => (qg_name sc_law.nd)) (fun _ _ _ _ _ => (qts_one (QW.t (qw_and (qt_val (QE.p (qe_callF ((ok__law_below X).up (by omega)) hr takes0 (qa_cons (qe_var 3) (qa_cons (qe_var 8) qa_nil))))) (qw_and1 (qt_val (QE.p (qe_callF ((ok__law_below X).up (by omega)) hr takes0 (qa_cons (qe_var 8) (qa_cons (qe_var 4) qa_nil)))))))))) (fun _ _ _ _ _ => (qe_var 8)))) qa_nil)))))
    (qb_cons (qs_if (QW.t (qw_or (qt_not (qt_val (QE.p (qe_callF ((ok__law_like X).up (by omega)) hr (takes_of rfl rfl rfl rfl) (qa_cons (QO.e (qo_lst (qa_cons (qe_callF ((ok_at_most X).up (by omega)) hr (takes_of rfl rfl rfl rfl) (qa_cons (qe_var 3) (qa_cons (qe_var 4) qa_nil))) (qa_cons (QO.e (qo_list (by rfl) X.n_list (QE.p (qe_callF ((ok_steps_between X).up (by omega)) hr (takes_of rfl rfl rfl rfl) (qa_cons (qe_var 3) (qa_cons (qe_var 4) qa_nil)))))) qa_nil)))) (qa_cons (qe_var 7) qa_nil)))))) (qw_or1 (qt_not (qt_val (QE.p (qe_callF ((ok__law_like X).up (by omega)) hr (takes_of rfl rfl rfl rfl) (qa_cons (qe_callF ((ok_steps_between X).up (by omega)) hr (takes_of rfl rfl rfl rfl) (qa_cons (qe_var 3) (qa_cons (qe_var 4) qa_nil))) (qa_cons (qe_tuple (by rfl) X.n_tuple (QE.p (qe_ix (QE.p (qe_var 7)) (QE.p qe_int)))) qa_nil))))))))) (qb_one (qs_ret qe_bl)) qb_nil)
    (qb_one (qs_if (qt_not (qt_val (QE.p (qe_callF ((ok__law_like X).up (by omega)) hr (takes_of rfl rfl rfl rfl) (qa_cons (QO.e (qo_lst (qa_cons (QO.e (qo_lst (qa_cons (qe_callF ((ok_meet X).up (by omega)) hr (takes_of rfl rfl rfl rfl) (qa_cons (qe_var 3) (qa_cons (qe_var 4) qa_nil))) qa_nil))) (qa_cons (QO.e (qo_lst (qa_cons (qe_callF ((ok_join X).up (by omega)) hr (takes_of rfl rfl rfl rfl) (qa_cons (qe_var 3) (qa_cons (qe_var 4) qa_nil))) qa_nil))) qa_nil)))) (qa_cons (QO.e (qo_lst (qa_cons (qe_var 5) (qa_cons (qe_var 6) qa_nil)))) qa_nil)))))) (qb_one (qs_ret qe_bl)) qb_nil))))))))
    (qb_cons (qs_set (i := 9) sc_law.nd (QO.e (qo_lst (qa_cons qe_non (qa_cons (qe_str []) (qa_cons (qe_str [65, 116, 111, 109, 105, 99]) (qa_cons (qe_str [115, 116, 114, 105, 99, 116]) (qa_cons (qe_str [115, 116, 114, 105, 99, 116, 32]) (qa_cons (qe_str [115, 101, 114, 105, 97, 108, 32]) (qa_cons (qe_str [32, 115, 101, 114, 105, 97, 108]) (qa_cons (qe_str [115, 116, 114, 105, 99, 116, 32, 32, 115, 101, 114, 105, 97, 108]) (qa_cons (qe_str [115, 116, 114, 105, 99, 116, 32, 115, 116, 114, 105, 99, 116, 32, 115, 101, 114, 105, 97, 108]) (qa_cons (QO.e (qo_lst (qa_cons (qe_str [115, 101, 114, 105, 97, 108]) qa_nil))) (qa_cons (qe_tup (qa_cons (qe_str [115, 101, 114, 105, 97, 108]) qa_nil)) (qa_cons qe_bl (qa_cons qe_int (qa_cons (qe_str [120]) qa_nil)))))))))))))))))
    (qb_cons (qs_if (qt_cm (cm_ne hr.units) (QE.p (QO.e (qo_lc [("odd", 10)] (by rfl) sc_law.nd (qi_seq (qe_var 9)) (show blkC N_law (defScope s_law) _ _ = true by decide +kernel) (fun _ _ _ _ _ => (qg_name sc_law.nd)) (fun _ _ _ _ _ => (qts_one (qt_cm (cm_ne hr.units) (QE.p (qe_callF ((ok__law_odd_calls X).up (by omega)) hr takes0 (qa_cons (qe_var 10) qa_nil))) (QE.p (qe_mul (QE.p (QO.e (qo_lst (qa_cons (qe_str [99, 111, 110, 100, 105, 116, 105, 111, 110]) qa_nil)))) (QE.p qe_int)))))) (fun _ _ _ _ _ => (qe_var 10))))) (QE.p (QO.e (qo_lst qa_nil)))) (qb_one (qs_ret qe_bl)) qb_nil)
    (qb_cons (qs_set (i := 8) sc_law.nd (qe_callF ((ok__law_some X).up (by omega)) hr (takes_of rfl rfl rfl rfl) (qa_cons (qe_var 1) (qa_cons (qe_var 2) qa_nil))))
    (qb_cons (qs_set (i := 11) sc_law.nd (qe_callF ((ok__law_roll X).up (by omega)) hr (takes_of rfl rfl rfl rfl) (qa_cons (qe_var 1) (qa_cons (qe_len (by rfl) X.n_len (QE.p (qe_var 8))) qa_nil))))
    (qb_cons (qs_set (i := 12) sc_law.nd (qe_add (QE.p (qe_add (QE.p (qe_cut (QE.p (qe_var 8)) qo_no (qo_so (QE.p (qe_var 11))))) (QE.p (qe_callF ((ok__law_some X).up (by omega)) hr (takes_of rfl rfl rfl rfl) (qa_cons (qe_var 1) (qa_cons (QO.e (qo_lst (qa_cons (qe_str []) (qa_cons (qe_str [97]) (qa_cons (qe_str [69]) (qa_cons (qe_str [32]) qa_nil)))))) qa_nil)))))) (QE.p (qe_cut (QE.p (qe_var 8)) (qo_so (QE.p (qe_add (QE.p (qe_var 11)) (QE.p qe_int)))) qo_no))))
    (qb_one (qs_ret (qe_or (QE.p (qe_cm (cm_in (u65 hr)) (QE.p (qe_var 12)) (QE.p (qe_var 2)))) (qe_one (qe_cm (cm_eq hr.units) (QE.p (qe_callF ((ok__law_odd_calls X).up (by omega)) hr (takes_of rfl rfl rfl rfl) (qa_cons (qe_var 12) qa_nil))) (QE.p (qe_mul (QE.p (QO.e (qo_lst (qa_cons (qe_str [99, 111, 110, 100, 105, 116, 105, 111, 110]) qa_nil)))) (QE.p qe_int))))))))))))))
end
end Q40

namespace Q40
open PySem PySem.Spec L2 MM
def okL : Fl → Bool
  | .rt (.bl true) => true
  | _ => false
theorem okL_post (fl : Fl) (h : okL fl = true) : lawPost fl := by
  cases fl with
  | rt d =>
    cases d with
    | bl b => cases b with
      | true => trivial
      | false => cases h
    | _ => cases h
  | _ => cases h
theorem pure_law : ((e_law (List.replicate 13 .no)).bind fun d => b_law ((lawEnv 13 1).set 2 (.frz d))).wp lawPost fun _ => False :=
  T.chk_wp okL_post (by kernel_rfl)
end Q40

namespace Q40
open PySem PySem.Spec L2 MM
/-! ### the head: facts by names, one run -/
def fa : List He.Fa := ([.glo "fits_condition", .glo "need_condition", .glo "word_of", .glo "is_strict", .glo "is_below", .glo "need_both", .glo "at_most", .glo "meet", .glo "join", .glo "steps_between", .glo "_law_cup", .glo "_law_roll", .glo "_law_some", .glo "_law_sort", .glo "_law_like", .glo "_law_conditions", .glo "_law_below", .glo "_law_error", .glo "_law_met", .glo "_law_odd_calls", .glo "law", .free "abs", .free "all", .free "bool", .free "int", .free "isinstance", .free "len", .free "list", .free "str", .free "tuple"] : List He.Fa) ++ ([.free "zip", .glo "InvalidCondition", .glo "OrderError", .exc "InvalidCondition", .exc "OrderError", .exm "InvalidCondition" "InvalidCondition" true, .exm "InvalidCondition" "OrderError" true, .glo "ABOVE"] : List He.Fa)
def fn : List He.DefD := [dd "fits_condition" s_fits_condition, dd "need_condition" s_need_condition, dd "word_of" s_word_of, dd "is_strict" s_is_strict, dd "is_below" s_is_below, dd "need_both" s_need_both, dd "at_most" s_at_most, dd "meet" s_meet, dd "join" s_join, dd "steps_between" s_steps_between, dd "_law_cup" s__law_cup, dd "_law_roll" s__law_roll, dd "_law_some" s__law_some, dd "_law_sort" s__law_sort, dd "_law_like" s__law_like, dd "_law_conditions" s__law_conditions, dd "_law_below" s__law_below, dd "_law_error" s__law_error, dd "_law_met" s__law_met, dd "_law_odd_calls" s__law_odd_calls, dd "law" s_law]
def ts : List He.Tab := [((fun K => He.ga K "ABOVE"), ["atomic", "causal", "parallel", "prefix", "snapshot", "serial"])]
def tf : List He.Defn := [("_law_odd_calls", none)]
def ex (K : PySem.W.Frag) : Bool := [conB K "CONDITIONS" c_CONDITIONS, dctB K (He.ga K "ABOVE") c_ABOVE].all id
abbrev hk : PySem.W.Hook := He.hookX 6 fa fn ts tf ex
abbrev R : PySem.W.OpenRow := PySem.W.OpenLaw.row PySem.Challenge.rw_orderloom_k40_whole_order_of_conditions
def ob (s : PySem.W.SharedT) : He.AlX := He.obsX 6 fa fn ts tf ex (HandSHeadRun.getT s)
theorem ob_eq (s : PySem.W.SharedT) : ob s = hk.obs s.abs := He.obsX_eq (HandSHeadRun.getT_eq s)
def names : List PySem.Str := ["OrderError", "InvalidCondition", "CONDITIONS", "fits_condition", "need_condition", "word_of", "ABOVE", "is_strict", "is_below", "need_both", "at_most", "meet", "join", "steps_between", "_law_cup", "_law_roll", "_law_some", "_law_sort", "_law_like", "_law_conditions", "_law_below", "_law_error", "_law_met", "_law_odd_calls"]
theorem run (w : World) : HandSHeadRun.RunEq R (PySem.W.view R.prog [29]) hk ob 6000 names w := by
  refine PySem.W.byRow2 "special-get-raises" (P := fun w => HandSHeadRun.RunEq R (PySem.W.view R.prog [29]) hk ob 6000 names w) (fun w os => ?_) (fun w os => ?_) w
  · kernel_rfl
  · kernel_rfl
theorem facts {w : World} {h : Heap} {mg : Str → Option Value} {f0 : Addr} (Y : hk.says w h) (G : h.Ns mainGlobals mg) (hm : mg "law" = some (.ref f0)) : ∃ K : PySem.W.Frag, K.In h ∧ LamX.LawAtS PySem.Challenge.rw_orderloom_k40_whole_order_of_conditions w K (L2.CX (PySem.Challenge.rw_orderloom_k40_whole_order_of_conditions).prog w) 10 63 "script" mg f0 h := by
  obtain ⟨K, KX, Y⟩ := Y
  have c := Y.t.d
  have hex := Y.more
  simp only [ex, List.all_cons, List.all_nil, Bool.and_eq_true, id] at hex
  obtain ⟨e0, e1, _⟩ := hex
  obtain ⟨fd, FD⟩ := c.def_ 20 (d := dd "law" s_law) rfl
  have ef : f0 = He.fAd K ("law", none) := by
    have e := hm.symm.trans (He.glo_ok KX G (c.fact 20 (f := .glo "law") rfl))
    cases e
    rfl
  subst ef
  have FD : FunD K "law" "law" (defArgs s_law) (defBody s_law) (defScope s_law) [] [] (He.fAd K ("law", none)) fd := FD
  have Fl := He5.fun_of (st := s_law) FD
  have bA := FunD.bindsA (ps := ["script"]) FD fun _ _ _ _ _ _ us hl => match us, hl with | [_], _ => rfl
  refine ⟨K, KX, fd, [He.cT K ("_law_odd_calls", none)], spLaw K [((He.cT K ("_law_odd_calls", none)).2, "_law_odd_calls.<locals>.<lambda>")], ?_, ?_, ?_, fun s u => bA s [u] rfl, fun H a ns hl _ hT hS => ⟨a, ns, rfl, hS, hl, ?_, fun _ => rfl⟩, fun base KB GB TB => ?_⟩
  · intro p hp
    simp only [List.mem_cons, List.not_mem_nil, or_false] at hp
    rcases hp with rfl
    · exact Y.empty _ (by simp [tf])
  · intro p hp
    simp only [List.mem_cons, List.not_mem_nil, or_false] at hp
    rcases hp with rfl
    · exact Y.out _ (by simp [tf])
  · intro p hp
    simp only [List.mem_cons, List.not_mem_nil, or_false] at hp
    rcases hp with rfl
    · exact PySem.W.codeHd_of_K KX (Y.hd _ (by simp [tf]))
  · intro p hp
    simp only [List.mem_cons, List.not_mem_nil, or_false] at hp
    rcases hp with rfl
    · exact LamX.TabS.nil (hT (He.cT K ("_law_odd_calls", none)) (by simp))
  have X : TX K w mg base [((He.cT K ("_law_odd_calls", none)).2, "_law_odd_calls.<locals>.<lambda>")] := ⟨defAt_of KX G c 0 0 (fun _ _ _ _ _ _ us hl => match us, hl with | [_], _ => rfl),
    defAt_of KX G c 1 1 (fun _ _ _ _ _ _ us hl => match us, hl with | [_], _ => rfl),
    defAt_of KX G c 2 2 (fun _ _ _ _ _ _ us hl => match us, hl with | [_], _ => rfl),
    defAt_of KX G c 3 3 (fun _ _ _ _ _ _ us hl => match us, hl with | [_], _ => rfl),
    defAt_of KX G c 4 4 (fun _ _ _ _ _ _ us hl => match us, hl with | [_, _], _ => rfl),
    defAt_of KX G c 5 5 (fun _ _ _ _ _ _ us hl => match us, hl with | [_, _], _ => rfl),
    defAt_of KX G c 6 6 (fun _ _ _ _ _ _ us hl => match us, hl with | [_, _], _ => rfl),
    defAt_of KX G c 7 7 (fun _ _ _ _ _ _ us hl => match us, hl with | [_, _], _ => rfl),
    defAt_of KX G c 8 8 (fun _ _ _ _ _ _ us hl => match us, hl with | [_, _], _ => rfl),
    defAt_of KX G c 9 9 (fun _ _ _ _ _ _ us hl => match us, hl with | [_, _], _ => rfl),
    defAt_of KX G c 10 10 (fun _ _ _ _ _ _ us hl => match us, hl with | [_], _ => rfl),
    defAt_of KX G c 11 11 (fun _ _ _ _ _ _ us hl => match us, hl with | [_, _], _ => rfl),
    defAt_of KX G c 12 12 (fun _ _ _ _ _ _ us hl => match us, hl with | [_, _], _ => rfl),
    defAt_of KX G c 13 13 (fun _ _ _ _ _ _ us hl => match us, hl with | [_], _ => rfl),
    defAt_of KX G c 14 14 (fun _ _ _ _ _ _ us hl => match us, hl with | [_, _], _ => rfl),
    defAt_of KX G c 15 15 (fun _ _ _ _ _ _ us hl => match us, hl with | [], _ => rfl),
    defAt_of KX G c 16 16 (fun _ _ _ _ _ _ us hl => match us, hl with | [_, _], _ => rfl),
    defAt_of KX G c 17 17 (fun _ _ _ _ _ _ us hl => match us, hl with | [_], _ => rfl),
    defAt_of KX G c 18 18 (fun _ _ _ _ _ _ us hl => match us, hl with | [_, _, _], _ => rfl),
    mkAt_of KX G c 19 19 (fun _ _ _ _ _ _ us hl => match us, hl with | [_], _ => rfl) (TB _ (by simp)) (by simp) (by intro p hp _; simp only [List.mem_cons, List.not_mem_nil, or_false] at hp; subst hp; rfl),
    defAt_of KX G c 20 20 (fun _ _ _ _ _ _ us hl => match us, hl with | [_], _ => rfl),
    clsAt_of KX G c 31 33,
    clsAt_of KX G c 32 34,
    sub_of (sub_cons (exm_of' KX G c 31 31 35) (sub_cons (exm_of' KX G c 31 32 36) sub_nil)),
    He.free_ok KX G (c.fact 21 (f := .free "abs") rfl),
    He.free_ok KX G (c.fact 22 (f := .free "all") rfl),
    He.free_ok KX G (c.fact 23 (f := .free "bool") rfl),
    He.free_ok KX G (c.fact 24 (f := .free "int") rfl),
    He.free_ok KX G (c.fact 25 (f := .free "isinstance") rfl),
    He.free_ok KX G (c.fact 26 (f := .free "len") rfl),
    He.free_ok KX G (c.fact 27 (f := .free "list") rfl),
    He.free_ok KX G (c.fact 28 (f := .free "str") rfl),
    He.free_ok KX G (c.fact 29 (f := .free "tuple") rfl),
    He.free_ok KX G (c.fact 30 (f := .free "zip") rfl),
    con_ok KX G e0,
    (by obtain ⟨es, n, kd⟩ := Y.t.tab 0 (t := ((fun K => He.ga K "ABOVE"), _)) rfl; exact dct_ok (He.glo_ok KX G (c.fact 37 (f := .glo "ABOVE") rfl)) kd e1)⟩
  exact ok_law (P := (PySem.Challenge.rw_orderloom_k40_whole_order_of_conditions).prog) X pure_law Fl
end Q40
open PySem PySem.W PySem.Calls PyProof.Rows
theorem PySem.Challenge.cw_orderloom_k40_whole_order_of_conditions_holds : PySem.Challenge.rw_orderloom_k40_whole_order_of_conditions.Holds := by
  w_on; o_law
  refine HandSHeadRun.head_any (r := OpenLaw.row PySem.Challenge.rw_orderloom_k40_whole_order_of_conditions) (q := view (OpenLaw.row PySem.Challenge.rw_orderloom_k40_whole_order_of_conditions).prog [29]) (H := Q40.hk) (ob := Q40.ob) (M := 6000) (loose := Q40.names) (d := HandSHeadRun.topDef (OpenLaw.row PySem.Challenge.rw_orderloom_k40_whole_order_of_conditions).prog 29) (kwd := []) Q40.ob_eq
    (by kernel_rfl) (fun s => by kernel_rfl) Q40.run (by kernel_rfl) (by kernel_rfl) (by kernel_rfl) (by rfl) (by first | assumption | decide +kernel) (by decide +kernel) ⟨rfl, rfl, rfl, rfl, rfl, by decide +kernel⟩ ?hw ?hc
  case hw => w_witness2
  case hc =>
    refine LamX.walk_ofTsE (l := PySem.Challenge.rw_orderloom_k40_whole_order_of_conditions) (n := 63) (k := 10) (x := "script") (CX := fun w => L2.CX (PySem.Challenge.rw_orderloom_k40_whole_order_of_conditions).prog w) rfl (by decide) (by kernel_rfl) ⟨rfl, by decide, by decide⟩ ?F (fun w H s e s' h => MM.cx_false h)
    intro w mg fa h Y G hmg0
    have hmg : mg ("law" : PySem.Str) = some (.ref fa) := by
      have e : (HandSHeadRun.topDef (OpenLaw.row PySem.Challenge.rw_orderloom_k40_whole_order_of_conditions).prog 29).name = ("law" : PySem.Str) := by kernel_rfl
      rw [← e]
      exact hmg0
    exact Q40.facts Y G hmg
