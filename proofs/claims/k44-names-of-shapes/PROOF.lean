import PyProof.Rows.All
import Wide.All
import OpenK.AllK
import Wide.FinOn
import HandS.ForMost
import HandS.ForExc
import HandS.IsInst
import HandS.TupAny
import HandS.TupMul
import HandS.Lambda
import HandS.Sort
import HandS.Zip
import HandS.Deep
import HandS.TryMany
import HandS.CallLocal
import HandS.More
import HandS.EndTab
import HandS.Head0
import HandS.Head1
import HandS.Head2
import HandS.HeadEnd
import HandS.HeadHook1
import HandS.HeadHook2
import HandS.HeadHook3
import HandS.HeadHook4
import HandS.HeadNt
import HandS.HeadWalk
import KE.SortData
import KE.SortKeyHeap
import HandS.SortKw
import PyProof.Cells
import HandS.Style
import HandS.Small
import KE.GoesNew
import KE.GoesMore
import HandS.SetFor
import HandS.Text
import KE.KDictZip
import KE.KDictPairs
import PySem.Challenge.RW_orderloom_k44_whole_names_of_shapes
set_option Elab.async false
set_option linter.all false
set_option maxRecDepth 100000
set_option maxHeartbeats 4000000
namespace MM
open PySem PySem.Spec L2

/-! ### data -/
inductive D where
  | non | bl (b : Bool) | int (i : Int) | str (s : List Nat) | lst (xs : List D) | tup (xs : List D) | dic (kvs : List (D × D)) | dit (kvs : List (D × D)) | cup | fn (x : List Nat) | ty (n : String)
structure Ex where
  cls : Str
  fld : Option (Str × D)
/-- a computation: a value, an exception, nothing known, or a draw of a number below n -/
inductive T (α : Type) where
  | ret (a : α) | exc (e : Ex) | bad | draw (n : Nat) (k : Nat → T α)
namespace T
def bind {α β : Type} : T α → (α → T β) → T β
  | .ret a, f => f a
  | .exc e, _ => .exc e
  | .bad, _ => .bad
  | .draw n k, f => .draw n fun i => (k i).bind f
instance : Monad T where
  pure := T.ret
  bind := T.bind
def wp {α : Type} : T α → (α → Prop) → (Ex → Prop) → Prop
  | .ret a, Q, _ => Q a
  | .exc e, _, E => E e
  | .bad, _, _ => False
  | .draw n k, Q, E => 0 < n ∧ ∀ i, i < n → (k i).wp Q E
theorem wp_bind {α β : Type} (f : α → T β) (Q : β → Prop) (E : Ex → Prop) : ∀ t : T α, (t.bind f).wp Q E ↔ t.wp (fun a => (f a).wp Q E) E
  | .ret a => Iff.rfl
  | .exc e => Iff.rfl
  | .bad => Iff.rfl
  | .draw n k => by
    show (0 < n ∧ ∀ i, i < n → ((k i).bind f).wp Q E) ↔ (0 < n ∧ ∀ i, i < n → (k i).wp _ E)
    constructor
    · rintro ⟨h, g⟩; exact ⟨h, fun i hi => (wp_bind f Q E (k i)).mp (g i hi)⟩
    · rintro ⟨h, g⟩; exact ⟨h, fun i hi => (wp_bind f Q E (k i)).mpr (g i hi)⟩
theorem wp_mono {α : Type} {Q Q' : α → Prop} {E E' : Ex → Prop} (hq : ∀ a, Q a → Q' a) (he : ∀ x, E x → E' x) : ∀ {t : T α}, t.wp Q E → t.wp Q' E'
  | .ret a, h => hq a h
  | .exc e, h => he e h
  | .bad, h => h
  | .draw n k, h => ⟨h.1, fun i hi => wp_mono hq he (h.2 i hi)⟩
end T

/-! ### the ghosts -/
/-- a thunk that a def was handed: its object, the cups and the heap at the def's start -/
structure Th where
  f : Addr
  C : Addr → Prop
  H0 : Hp
structure Tb where
  l : List (Addr × Str)
  th : Option Th
def tb0 (l : List (Addr × Str)) : Tb := ⟨l, none⟩
structure Pg where
  K : PySem.W.Frag
  mg : Str → Option Value
  tb : Tb
structure Gh where
  H0 : Hp
  N0 : Addr → Prop
  C : Addr → Prop
  hC : ∀ a, C a → N0 a

def CupAt (H : Hp) (a : Addr) : Prop := ∃ c d : Int, H a = some (.lst [.int c, .int d]) ∧ 0 ≤ c ∧ 0 ≤ d ∧ d < 2147483543

abbrev sl (x : List Nat) : Str := ⟨x.toArray⟩

def eqNats : List Nat → List Nat → Bool
  | [], [] => true
  | a :: as, b :: bs => Nat.beq a b && eqNats as bs
  | _, _ => false
/-! keys of dicts -/
def isK : D → Bool
  | .int _ => true | .str _ => true | _ => false
def keyB : D → D → Bool
  | .int i, .int j => decide (i = j)
  | .str s, .str t => eqNats s t
  | _, _ => false
def hasK (k : D) : List (D × D) → Bool
  | [] => false
  | (j, _) :: r => keyB j k || hasK k r
/-- keys told once -/
def nodK : List (D × D) → Bool
  | [] => true
  | (k, _) :: r => !hasK k r && nodK r
/-- what stands at a for good -/
def Fz (H : Hp) (a : Addr) (u : HO) : Prop := ∃ o, H a = some (.frz o u)
mutual
def Rep (p : Pg) (C : Addr → Prop) (H : Hp) : D → V → Prop
  | .non, v => v = .non
  | .bl b, v => v = .bl b
  | .int i, v => v = .int i
  | .str s, v => v = .str (sl s) ∧ (∀ c ∈ s, c < 0x110000) ∧ s.length ≤ sizeLine
  | .ty n, v => v = .ty n
  | .lst xs, v => ∃ a vs, v = .ref a ∧ Fz H a (.lst vs) ∧ xs.length ≤ sizeLine ∧ RepL p C H xs vs
  | .tup xs, v => ∃ a vs, v = .ref a ∧ SqT p.K H a vs ∧ xs.length ≤ sizeLine ∧ RepL p C H xs vs
  | .dic kvs, v => ∃ a kws, v = .ref a ∧ Fz H a (.dK kws) ∧ (kvs.length ≤ sizeLine ∧ nodK kvs = true) ∧ RepK p C H kvs kws
  | .dit kvs, v => ∃ a kws, v = .ref a ∧ Fz H a (.dT kws) ∧ kvs.length ≤ sizeLine ∧ RepT p C H kvs kws
  | .cup, v => ∃ a, v = .ref a ∧ C a
  | .fn x, v => ∃ f, v = .ref f ∧ ((x ≠ [] ∧ p.mg (sl x) = some (.ref f)) ∨ (x = [] ∧ ∃ t, p.tb.th = some t ∧ t.f = f))
def RepL (p : Pg) (C : Addr → Prop) (H : Hp) : List D → List V → Prop
  | [], vs => vs = []
  | d :: ds, vs => ∃ v ws, vs = v :: ws ∧ Rep p C H d v ∧ RepL p C H ds ws
def RepK (p : Pg) (C : Addr → Prop) (H : Hp) : List (D × D) → List (Key × V) → Prop
  | [], kws => kws = []
  | (k, d) :: ds, kws => ∃ kk v ws, kws = (kk, v) :: ws ∧ Rep p C H k (kV kk) ∧ Rep p C H d v ∧ RepK p C H ds ws
def RepT (p : Pg) (C : Addr → Prop) (H : Hp) : List (D × D) → List (List Key × V) → Prop
  | [], kws => kws = []
  | (.tup ks, d) :: ds, kws => ∃ kk v ws, kws = (kk, v) :: ws ∧ ks.length ≤ sizeLine ∧ RepL p C H ks (kk.map kV) ∧ Rep p C H d v ∧ RepT p C H ds ws
  | _ :: _, _ => False
end

/-- an object that is no table of code objects -/
def Ob (H : Hp) (b : Addr) : Prop := ∃ o, H b = some o ∧ ∀ ps, o ≠ .tbl ps
theorem nOb {H : Hp} {a : Addr} (h : H a = none) : ¬ Ob H a := fun ⟨_, e, _⟩ => by rw [h] at e; cases e
structure Step (p : Pg) (C : Addr → Prop) (H H' : Hp) : Prop where
  grow : ∀ b o, H b = some o → ¬ C b → (∀ ps, o ≠ .tbl ps) → H' b = some o
  cup : ∀ a, C a → CupAt H' a
  tabs : LamX.Tabs p.tb.l H'
  dom : ∀ b, Ob H b → Ob H' b

section
variable {p : Pg} {C : Addr → Prop} {H H1 H' H2 : Hp}
theorem Step.trans (a : Step p C H H1) (b : Step p C H1 H2) : Step p C H H2 :=
  ⟨fun c o h n t => b.grow c o (a.grow c o h n t) n t, b.cup, b.tabs, fun c h => b.dom c (a.dom c h)⟩
end

/-- the heap moves: what stands for good stands -/
structure Mv (H H' : Hp) : Prop where
  tup : ∀ b xs, H b = some (.tup xs) → H' b = some (.tup xs)
  frz : ∀ b o u, H b = some (.frz o u) → H' b = some (.frz o u)
theorem Mv.refl {H : Hp} : Mv H H := ⟨fun _ _ h => h, fun _ _ _ h => h⟩
theorem Mv.trans {H H1 H2 : Hp} (a : Mv H H1) (b : Mv H1 H2) : Mv H H2 := ⟨fun c xs h => b.tup c xs (a.tup c xs h), fun c o u h => b.frz c o u (a.frz c o u h)⟩
theorem Fz.mv {H H' : Hp} {a : Addr} {u : HO} (m : Mv H H') (h : Fz H a u) : Fz H' a u := let ⟨o, e⟩ := h; ⟨o, m.frz _ _ _ e⟩
theorem Fz.rd {H : Hp} {a : Addr} {u : HO} (h : Fz H a u) : Rd H a u := .inr h
theorem SqT.mv {K : PySem.W.Frag} {H H' : Hp} {a : Addr} {vs : List V} (m : Mv H H') (s : SqT K H a vs) : SqT K H' a vs := by
  rcases s with (h | ⟨o, h⟩) | h
  · exact .inl (.inl (m.tup _ _ h))
  · exact .inl (.inr ⟨o, m.frz _ _ _ h⟩)
  · exact .inr h
mutual
theorem Rep.mv {p : Pg} {C : Addr → Prop} {H H' : Hp} (m : Mv H H') : ∀ {d : D} {v : V}, Rep p C H d v → Rep p C H' d v
  | .non, _, h => h
  | .bl _, _, h => h
  | .int _, _, h => h
  | .str _, _, h => h
  | .cup, _, h => h
  | .fn _, _, h => h
  | .ty _, _, h => h
  | .lst xs, v, h => by
    simp only [Rep] at h ⊢
    obtain ⟨a, vs, e, s, l, r⟩ := h
    exact ⟨a, vs, e, s.mv m, l, RepL.mv m r⟩
  | .tup xs, v, h => by
    simp only [Rep] at h ⊢
    obtain ⟨a, vs, e, s, l, r⟩ := h
    exact ⟨a, vs, e, SqT.mv m s, l, RepL.mv m r⟩
  | .dic kvs, v, h => by
    simp only [Rep] at h ⊢
    obtain ⟨a, kws, e, s, l, r⟩ := h
    exact ⟨a, kws, e, s.mv m, l, RepK.mv m r⟩
  | .dit kvs, v, h => by
    simp only [Rep] at h ⊢
    obtain ⟨a, kws, e, s, l, r⟩ := h
    exact ⟨a, kws, e, s.mv m, l, RepT.mv m r⟩
theorem RepL.mv {p : Pg} {C : Addr → Prop} {H H' : Hp} (m : Mv H H') : ∀ {ds : List D} {vs : List V}, RepL p C H ds vs → RepL p C H' ds vs
  | [], _, h => h
  | d :: ds, vs, h => by
    simp only [RepL] at h ⊢
    obtain ⟨v, ws, e, r, q⟩ := h
    exact ⟨v, ws, e, Rep.mv m r, RepL.mv m q⟩
theorem RepK.mv {p : Pg} {C : Addr → Prop} {H H' : Hp} (m : Mv H H') : ∀ {ds : List (D × D)} {vs : List (Key × V)}, RepK p C H ds vs → RepK p C H' ds vs
  | [], _, h => h
  | (k, d) :: ds, vs, h => by
    simp only [RepK] at h ⊢
    obtain ⟨kk, v, ws, e, r, r2, q⟩ := h
    exact ⟨kk, v, ws, e, Rep.mv m r, Rep.mv m r2, RepK.mv m q⟩
theorem RepT.mv {p : Pg} {C : Addr → Prop} {H H' : Hp} (m : Mv H H') : ∀ {ds : List (D × D)} {vs : List (List Key × V)}, RepT p C H ds vs → RepT p C H' ds vs
  | [], _, h => h
  | (k, d) :: ds, vs, h => by
    cases k with
    | tup ks =>
      simp only [RepT] at h ⊢
      obtain ⟨kk, v, ws, e, l, r, r2, q⟩ := h
      exact ⟨kk, v, ws, e, l, RepL.mv m r, Rep.mv m r2, RepT.mv m q⟩
    | _ => simp only [RepT] at h
end

/-- a value read through, whatever owns its own object -/
def RepP (p : Pg) (C : Addr → Prop) (H : Hp) (d : D) (v : V) : Prop :=
  match d with
  | .lst xs => ∃ a vs, v = .ref a ∧ ¬ C a ∧ Rd H a (.lst vs) ∧ xs.length ≤ sizeLine ∧ RepL p C H xs vs
  | .dic kvs => ∃ a kws, v = .ref a ∧ ¬ C a ∧ Rd H a (.dK kws) ∧ (kvs.length ≤ sizeLine ∧ nodK kvs = true) ∧ RepK p C H kvs kws
  | .dit kvs => ∃ a kws, v = .ref a ∧ ¬ C a ∧ Rd H a (.dT kws) ∧ kvs.length ≤ sizeLine ∧ RepT p C H kvs kws
  | d => Rep p C H d v
theorem Fz.nc {C : Addr → Prop} {H : Hp} (hc : ∀ a, C a → CupAt H a) {a : Addr} {u : HO} (h : Fz H a u) : ¬ C a := fun z => by
  obtain ⟨x, y, e, _⟩ := hc a z
  obtain ⟨o, h⟩ := h
  rw [h] at e; cases e
theorem Rep.p {p : Pg} {C : Addr → Prop} {H : Hp} {d : D} {v : V} (hc : ∀ a, C a → CupAt H a) (h : Rep p C H d v) : RepP p C H d v := by
  cases d with
  | lst xs => simp only [Rep] at h; obtain ⟨a, vs, e, s, l, r⟩ := h; exact ⟨a, vs, e, s.nc hc, s.rd, l, r⟩
  | dic xs => simp only [Rep] at h; obtain ⟨a, vs, e, s, l, r⟩ := h; exact ⟨a, vs, e, s.nc hc, s.rd, l, r⟩
  | dit xs => simp only [Rep] at h; obtain ⟨a, vs, e, s, l, r⟩ := h; exact ⟨a, vs, e, s.nc hc, s.rd, l, r⟩
  | _ => exact h
/-- the arguments, read through -/
def RepPs (p : Pg) (C : Addr → Prop) (H : Hp) : List D → List V → Prop
  | [], vs => vs = []
  | d :: ds, vs => ∃ v ws, vs = v :: ws ∧ RepP p C H d v ∧ RepPs p C H ds ws
theorem RepL.p {p : Pg} {C : Addr → Prop} {H : Hp} (hc : ∀ a, C a → CupAt H a) : ∀ {ds : List D} {vs : List V}, RepL p C H ds vs → RepPs p C H ds vs
  | [], _, h => by simp only [RepL] at h; simp only [RepPs]; exact h
  | d :: ds, _, h => by
    simp only [RepL] at h
    obtain ⟨v, ws, e, r, q⟩ := h
    exact ⟨v, ws, e, r.p hc, RepL.p hc q⟩
section
variable {p : Pg} {C : Addr → Prop} {H : Hp}
theorem RepL.length : ∀ {ds : List D} {vs : List V}, RepL p C H ds vs → vs.length = ds.length
  | [], _, h => by simp only [RepL] at h; subst h; rfl
  | d :: ds, _, h => by
    simp only [RepL] at h
    obtain ⟨v, ws, rfl, _, q⟩ := h
    simp [RepL.length q]
theorem RepL.get : ∀ {ds : List D} {vs : List V} {i : Nat} {d : D}, RepL p C H ds vs → ds[i]? = some d → ∃ v, vs[i]? = some v ∧ Rep p C H d v
  | [], _, _, _, _, e => by simp at e
  | d :: ds, _, 0, _, h, e => by
    simp only [RepL] at h
    obtain ⟨v, ws, rfl, r, _⟩ := h
    simp at e; subst e
    exact ⟨v, rfl, r⟩
  | d :: ds, _, i + 1, d', h, e => by
    simp only [RepL] at h
    obtain ⟨v, ws, rfl, _, q⟩ := h
    obtain ⟨w, e1, r⟩ := RepL.get (i := i) q (by simpa using e)
    exact ⟨w, by simpa using e1, r⟩
theorem RepL.get' {ds : List D} {vs : List V} {i : Nat} {v : V} (h : RepL p C H ds vs) (e : vs[i]? = some v) : ∃ d, ds[i]? = some d ∧ Rep p C H d v := by
  have hi : i < vs.length := (List.getElem?_eq_some_iff.mp e).1
  have hi' : i < ds.length := by rw [← h.length]; exact hi
  obtain ⟨w, e1, r⟩ := h.get (List.getElem?_eq_getElem hi')
  rw [e] at e1; cases e1
  exact ⟨_, List.getElem?_eq_getElem hi', r⟩
theorem RepL.app : ∀ {ds es : List D} {vs ws : List V}, RepL p C H ds vs → RepL p C H es ws → RepL p C H (ds ++ es) (vs ++ ws)
  | [], _, _, _, h, q => by simp only [RepL] at h; subst h; exact q
  | d :: ds, es, _, ws, h, q => by
    simp only [RepL] at h
    obtain ⟨v, us, rfl, r, t⟩ := h
    show RepL p C H (d :: (ds ++ es)) (v :: (us ++ ws))
    simp only [RepL]
    exact ⟨v, _, rfl, r, RepL.app t q⟩
theorem RepL.drop : ∀ {ds : List D} {vs : List V} (n : Nat), RepL p C H ds vs → RepL p C H (ds.drop n) (vs.drop n)
  | _, _, 0, h => h
  | [], _, n + 1, h => by simp only [RepL] at h; subst h; simp [RepL]
  | d :: ds, _, n + 1, h => by
    simp only [RepL] at h
    obtain ⟨v, us, rfl, r, t⟩ := h
    simpa using RepL.drop n t
theorem RepL.take : ∀ {ds : List D} {vs : List V} (n : Nat), RepL p C H ds vs → RepL p C H (ds.take n) (vs.take n)
  | _, _, 0, h => by simp [RepL]
  | [], _, n + 1, h => by simp only [RepL] at h; subst h; simp [RepL]
  | d :: ds, _, n + 1, h => by
    simp only [RepL] at h
    obtain ⟨v, us, rfl, r, t⟩ := h
    simp only [List.take_succ_cons, RepL]
    exact ⟨v, _, rfl, r, RepL.take n t⟩
theorem RepL.one {d : D} {v : V} (h : Rep p C H d v) : RepL p C H [d] [v] := by
  simp only [RepL]; exact ⟨v, [], rfl, h, rfl⟩
theorem RepL.cons {d : D} {v : V} {ds : List D} {vs : List V} (h : Rep p C H d v) (q : RepL p C H ds vs) : RepL p C H (d :: ds) (v :: vs) := by
  simp only [RepL]; exact ⟨v, vs, rfl, h, q⟩
theorem RepL.nil : RepL p C H [] [] := by simp [RepL]
end

/-! ### the slots -/
inductive Sl where
  | no | frz (d : D) | own (d : D) | own2 (d : D)
abbrev Env := List Sl
/-- what a container holds by reference -/
def Inner (H : Hp) (a b : Addr) : Prop := (∃ vs, H a = some (.lst vs) ∧ V.ref b ∈ vs) ∨ (∃ kws k, H a = some (.dK kws) ∧ (k, V.ref b) ∈ kws) ∨ ∃ kws k, H a = some (.dT kws) ∧ (k, V.ref b) ∈ kws
def OwnAt (σ : St) (env : Env) (H : Hp) (i : Nat) (b : Addr) : Prop :=
  ((∃ d, env[i]? = some (.own d)) ∧ σ[i]? = some (some (.ref b))) ∨ ((∃ d, env[i]? = some (.own2 d)) ∧ ∃ a, σ[i]? = some (some (.ref a)) ∧ (b = a ∨ Inner H a b))
/-- what may be owned -/
def Md : HO → Prop
  | .lst _ => True
  | .dK _ => True
  | .dT _ => True
  | _ => False
def OwnRep (p : Pg) (C : Addr → Prop) (H : Hp) (d : D) (a : Addr) : Prop :=
  match d with
  | .lst xs => ∃ vs, H a = some (.lst vs) ∧ xs.length ≤ sizeLine ∧ RepL p C H xs vs
  | .dic kvs => ∃ kws, H a = some (.dK kws) ∧ (kvs.length ≤ sizeLine ∧ nodK kvs = true) ∧ RepK p C H kvs kws
  | .dit kvs => ∃ kws, H a = some (.dT kws) ∧ kvs.length ≤ sizeLine ∧ RepT p C H kvs kws
  | _ => False
def OwnL (p : Pg) (C : Addr → Prop) (H : Hp) : List D → List V → List Addr → Prop
  | [], vs, bs => vs = [] ∧ bs = []
  | d :: ds, vs, bs => ∃ b ws cs, vs = .ref b :: ws ∧ bs = b :: cs ∧ OwnRep p C H d b ∧ OwnL p C H ds ws cs
def OwnK (p : Pg) (C : Addr → Prop) (H : Hp) : List (D × D) → List (Key × V) → List Addr → Prop
  | [], vs, bs => vs = [] ∧ bs = []
  | (k, d) :: ds, vs, bs => ∃ kk b ws cs, vs = (kk, .ref b) :: ws ∧ bs = b :: cs ∧ Rep p C H k (kV kk) ∧ OwnRep p C H d b ∧ OwnK p C H ds ws cs
/-- a container that owns what it holds -/
def OwnRep2 (p : Pg) (C : Addr → Prop) (H : Hp) (d : D) (a : Addr) (bs : List Addr) : Prop :=
  match d with
  | .lst xs => ∃ vs, H a = some (.lst vs) ∧ xs.length ≤ sizeLine ∧ OwnL p C H xs vs bs
  | .dic kvs => ∃ kws, H a = some (.dK kws) ∧ (kvs.length ≤ sizeLine ∧ nodK kvs = true) ∧ OwnK p C H kvs kws bs
  | _ => False
def SlOk (p : Pg) (g : Gh) (σ : St) (H : Hp) (i : Nat) (s : Sl) : Prop :=
  match s with
  | .no => True
  | .frz d => ∃ v, σ[i]? = some (some v) ∧ Rep p g.C H d v
  | .own d => ∃ a, σ[i]? = some (some (.ref a)) ∧ OwnRep p g.C H d a
  | .own2 d => ∃ a bs, σ[i]? = some (some (.ref a)) ∧ (a :: bs).Nodup ∧ OwnRep2 p g.C H d a bs
structure ER (p : Pg) (g : Gh) (σ : St) (env : Env) (H : Hp) : Prop where
  len : σ.length = env.length
  keep : ∀ b o, g.H0 b = some o → ¬ g.C b → (∀ ps, o ≠ .tbl ps) → H b = some o
  dom : ∀ b, Ob g.H0 b → Ob H b
  cup : ∀ a, g.C a → CupAt H a
  tabs : LamX.Tabs p.tb.l H
  n0 : ∀ a, g.N0 a → Ob H a
  slot : ∀ i s, env[i]? = some s → SlOk p g σ H i s
  uniq : ∀ i j a, OwnAt σ env H i a → OwnAt σ env H j a → i = j
  fresh : ∀ i a, OwnAt σ env H i a → ¬ g.N0 a ∧ ¬ Ob g.H0 a
  th : ∀ t, p.tb.th = some t → g.C = t.C ∧ g.H0 = t.H0

section
variable {p : Pg} {g : Gh} {σ : St} {env : Env} {H H' : Hp}
theorem OwnRep.obj {C : Addr → Prop} {d : D} {a : Addr} (h : OwnRep p C H d a) : ∃ u, H a = some u ∧ Md u := by
  cases d with
  | lst xs => obtain ⟨vs, e, _⟩ := h; exact ⟨_, e, trivial⟩
  | dic xs => obtain ⟨vs, e, _⟩ := h; exact ⟨_, e, trivial⟩
  | dit xs => obtain ⟨vs, e, _⟩ := h; exact ⟨_, e, trivial⟩
  | _ => exact h.elim
theorem OwnRep.mv {C : Addr → Prop} (m : Mv H H') {d : D} {a : Addr} (h : OwnRep p C H d a) (k : ∀ o, H a = some o → (∀ ps, o ≠ .tbl ps) → H' a = some o) : OwnRep p C H' d a := by
  cases d with
  | lst xs => obtain ⟨vs, e, l, r⟩ := h; exact ⟨vs, k _ e (fun _ => by simp), l, r.mv m⟩
  | dic xs => obtain ⟨vs, e, l, r⟩ := h; exact ⟨vs, k _ e (fun _ => by simp), l, RepK.mv m r⟩
  | dit xs => obtain ⟨vs, e, l, r⟩ := h; exact ⟨vs, k _ e (fun _ => by simp), l, RepT.mv m r⟩
  | _ => exact h.elim
theorem OwnL.mv {C : Addr → Prop} (m : Mv H H') : ∀ {ds : List D} {vs : List V} {bs : List Addr}, OwnL p C H ds vs bs → (∀ b ∈ bs, ∀ o, H b = some o → (∀ ps, o ≠ .tbl ps) → H' b = some o) → OwnL p C H' ds vs bs
  | [], _, _, h, _ => h
  | d :: ds, _, _, h, k => by
    obtain ⟨b, ws, cs, rfl, rfl, r, q⟩ := h
    exact ⟨b, ws, cs, rfl, rfl, r.mv m (k b List.mem_cons_self), OwnL.mv m q fun c hc => k c (List.mem_cons_of_mem _ hc)⟩
theorem OwnK.mv {C : Addr → Prop} (m : Mv H H') : ∀ {ds : List (D × D)} {vs : List (Key × V)} {bs : List Addr}, OwnK p C H ds vs bs → (∀ b ∈ bs, ∀ o, H b = some o → (∀ ps, o ≠ .tbl ps) → H' b = some o) → OwnK p C H' ds vs bs
  | [], _, _, h, _ => h
  | (_, d) :: ds, _, _, h, k => by
    obtain ⟨kk, b, ws, cs, rfl, rfl, rk, r, q⟩ := h
    exact ⟨kk, b, ws, cs, rfl, rfl, rk.mv m, r.mv m (k b List.mem_cons_self), OwnK.mv m q fun c hc => k c (List.mem_cons_of_mem _ hc)⟩
theorem OwnL.inner {C : Addr → Prop} : ∀ {ds : List D} {vs : List V} {bs : List Addr}, OwnL p C H ds vs bs → ∀ b, V.ref b ∈ vs ↔ b ∈ bs
  | [], _, _, h, b => by obtain ⟨rfl, rfl⟩ := h; simp
  | d :: ds, _, _, h, b => by
    obtain ⟨c, ws, cs, rfl, rfl, r, q⟩ := h
    simp [OwnL.inner q b]
theorem OwnK.inner {C : Addr → Prop} : ∀ {ds : List (D × D)} {vs : List (Key × V)} {bs : List Addr}, OwnK p C H ds vs bs → ∀ b, (∃ k, (k, V.ref b) ∈ vs) ↔ b ∈ bs
  | [], _, _, h, b => by obtain ⟨rfl, rfl⟩ := h; simp
  | (_, d) :: ds, _, _, h, b => by
    obtain ⟨kk, c, ws, cs, rfl, rfl, rk, r, q⟩ := h
    have ih := OwnK.inner q b
    constructor
    · rintro ⟨k, hk⟩
      rcases List.mem_cons.mp hk with z | z
      · cases z; exact List.mem_cons_self
      · exact List.mem_cons_of_mem _ (ih.mp ⟨k, z⟩)
    · intro hb
      rcases List.mem_cons.mp hb with rfl | z
      · exact ⟨kk, List.mem_cons_self⟩
      · obtain ⟨k, hk⟩ := ih.mpr z
        exact ⟨k, List.mem_cons_of_mem _ hk⟩
theorem OwnL.objs {C : Addr → Prop} : ∀ {ds : List D} {vs : List V} {bs : List Addr}, OwnL p C H ds vs bs → ∀ b ∈ bs, ∃ u, H b = some u ∧ Md u
  | [], _, _, h, b, hb => by obtain ⟨rfl, rfl⟩ := h; simp at hb
  | d :: ds, _, _, h, b, hb => by
    obtain ⟨c, ws, cs, rfl, rfl, r, q⟩ := h
    rcases List.mem_cons.mp hb with rfl | z
    · exact r.obj
    · exact OwnL.objs q b z
theorem OwnK.objs {C : Addr → Prop} : ∀ {ds : List (D × D)} {vs : List (Key × V)} {bs : List Addr}, OwnK p C H ds vs bs → ∀ b ∈ bs, ∃ u, H b = some u ∧ Md u
  | [], _, _, h, b, hb => by obtain ⟨rfl, rfl⟩ := h; simp at hb
  | (_, d) :: ds, _, _, h, b, hb => by
    obtain ⟨kk, c, ws, cs, rfl, rfl, rk, r, q⟩ := h
    rcases List.mem_cons.mp hb with rfl | z
    · exact r.obj
    · exact OwnK.objs q b z
theorem OwnRep2.inner {C : Addr → Prop} {d : D} {a : Addr} {bs : List Addr} (h : OwnRep2 p C H d a bs) (b : Addr) : Inner H a b ↔ b ∈ bs := by
  unfold Inner
  cases d with
  | lst xs =>
    obtain ⟨vs, e, l, r⟩ := h
    rw [← r.inner b]
    constructor
    · rintro (⟨ws, e', hb⟩ | ⟨_, _, e', _⟩ | ⟨_, _, e', _⟩) <;> rw [e] at e' <;> cases e'
      exact hb
    · exact fun hb => .inl ⟨vs, e, hb⟩
  | dic xs =>
    obtain ⟨vs, e, l, r⟩ := h
    rw [← r.inner b]
    constructor
    · rintro (⟨ws, e', hb⟩ | ⟨ws, k, e', hb⟩ | ⟨_, _, e', _⟩) <;> rw [e] at e' <;> cases e'
      exact ⟨k, hb⟩
    · rintro ⟨k, hb⟩
      exact .inr (.inl ⟨vs, k, e, hb⟩)
  | _ => exact h.elim
theorem OwnRep2.objs {C : Addr → Prop} {d : D} {a : Addr} {bs : List Addr} (h : OwnRep2 p C H d a bs) : ∀ b ∈ a :: bs, ∃ u, H b = some u ∧ Md u := by
  intro b hb
  cases d with
  | lst xs =>
    obtain ⟨vs, e, l, r⟩ := h
    rcases List.mem_cons.mp hb with rfl | z
    · exact ⟨_, e, trivial⟩
    · exact r.objs b z
  | dic xs =>
    obtain ⟨vs, e, l, r⟩ := h
    rcases List.mem_cons.mp hb with rfl | z
    · exact ⟨_, e, trivial⟩
    · exact r.objs b z
  | _ => exact h.elim
theorem OwnRep2.mv {C : Addr → Prop} (m : Mv H H') {d : D} {a : Addr} {bs : List Addr} (h : OwnRep2 p C H d a bs) (k : ∀ b ∈ a :: bs, ∀ o, H b = some o → (∀ ps, o ≠ .tbl ps) → H' b = some o) : OwnRep2 p C H' d a bs := by
  cases d with
  | lst xs => obtain ⟨vs, e, l, r⟩ := h; exact ⟨vs, k a List.mem_cons_self _ e (fun _ => by simp), l, r.mv m fun c hc => k c (List.mem_cons_of_mem _ hc)⟩
  | dic xs => obtain ⟨vs, e, l, r⟩ := h; exact ⟨vs, k a List.mem_cons_self _ e (fun _ => by simp), l, r.mv m fun c hc => k c (List.mem_cons_of_mem _ hc)⟩
  | _ => exact h.elim
theorem Md.tb {u : HO} (h : Md u) : ∀ ps, u ≠ .tbl ps := fun ps z => by subst z; exact h
theorem Md.mut {u : HO} (h : Md u) : Mut (some u) := by cases u <;> first | exact h.elim | trivial
theorem ER.objAt (E : ER p g σ env H) {i : Nat} {a : Addr} (h : OwnAt σ env H i a) : ∃ u, H a = some u ∧ Md u := by
  rcases h with ⟨⟨d, e⟩, hs⟩ | ⟨⟨d, e⟩, c, hs, hb⟩
  · obtain ⟨a', e1, r⟩ := E.slot i _ e
    rw [hs] at e1; cases e1
    exact r.obj
  · obtain ⟨a', bs, e1, nd, r⟩ := E.slot i _ e
    rw [hs] at e1; cases e1
    refine r.objs a ?_
    rcases hb with rfl | hb
    · exact List.mem_cons_self
    · exact List.mem_cons_of_mem _ ((r.inner a).mp hb)
theorem ER.obAt (E : ER p g σ env H) {i : Nat} {a : Addr} (h : OwnAt σ env H i a) : Ob H a := by
  obtain ⟨u, e, m⟩ := E.objAt h
  exact ⟨u, e, m.tb⟩
theorem Step.mv {C : Addr → Prop} (hc : ∀ a, C a → CupAt H a) (s : Step p C H H') : Mv H H' := by
  have nc : ∀ b o, H b = some o → (∀ c d, o ≠ .lst [.int c, .int d]) → ¬ C b := fun b o h n c => by
    obtain ⟨x, y, e, _⟩ := hc b c
    rw [h] at e; cases e
    exact n _ _ rfl
  exact ⟨fun b xs h => s.grow b _ h (nc b _ h fun _ _ z => by cases z) (fun _ => by simp), fun b o u h => s.grow b _ h (nc b _ h fun _ _ z => by cases z) (fun _ => by simp)⟩
theorem ER.mv (E : ER p g σ env H) (s : Step p g.C H H') : Mv H H' := s.mv E.cup
/-- what a slot's things are, is told alike where they stand alike -/
theorem OwnAt.same (E : ER p g σ env H) {i : Nat} (k : ∀ b, OwnAt σ env H i b → H' b = H b) {b : Addr} : OwnAt σ env H' i b ↔ OwnAt σ env H i b := by
  have inn : ∀ a, (∃ d, env[i]? = some (.own2 d)) → σ[i]? = some (some (.ref a)) → ∀ c, Inner H' a c ↔ Inner H a c := fun a h hs c => by
    have := k a (.inr ⟨h, a, hs, .inl rfl⟩)
    unfold Inner
    rw [this]
  unfold OwnAt
  constructor
  · rintro (h | ⟨h, a, hs, hb⟩)
    · exact .inl h
    · exact .inr ⟨h, a, hs, hb.imp id (inn a h hs b).mp⟩
  · rintro (h | ⟨h, a, hs, hb⟩)
    · exact .inl h
    · exact .inr ⟨h, a, hs, hb.imp id (inn a h hs b).mpr⟩
theorem SlOk.mv (m : Mv H H') {i : Nat} {s : Sl} (h : SlOk p g σ H i s) (he : env[i]? = some s) (k : ∀ b, OwnAt σ env H i b → H' b = H b) : SlOk p g σ H' i s := by
  cases s with
  | no => trivial
  | frz d => obtain ⟨v, e, r⟩ := h; exact ⟨v, e, r.mv m⟩
  | own d =>
    obtain ⟨a, e, r⟩ := h
    exact ⟨a, e, r.mv m fun o ho _ => by rw [k a (.inl ⟨⟨d, he⟩, e⟩)]; exact ho⟩
  | own2 d =>
    obtain ⟨a, bs, e, nd, r⟩ := h
    refine ⟨a, bs, e, nd, r.mv m fun b hb o ho _ => ?_⟩
    rw [k b (.inr ⟨⟨d, he⟩, a, e, ?_⟩)]
    · exact ho
    · rcases List.mem_cons.mp hb with z | z
      · exact .inl z
      · exact .inr ((r.inner b).mpr z)
theorem ER.nc (E : ER p g σ env H) {i : Nat} {a : Addr} (h : OwnAt σ env H i a) : ¬ g.C a := fun c => (E.fresh i a h).1 (g.hC a c)
theorem ER.at_step (E : ER p g σ env H) (s : Step p g.C H H') {i : Nat} {b : Addr} (h : OwnAt σ env H i b) : H' b = H b := by
  obtain ⟨u, e, m⟩ := E.objAt h
  rw [e]
  exact s.grow b u e (E.nc h) m.tb
theorem ER.step (E : ER p g σ env H) (s : Step p g.C H H') : ER p g σ env H' where
  len := E.len
  keep := fun b o h n t => s.grow b o (E.keep b o h n t) n t
  dom := fun b h => s.dom b (E.dom b h)
  cup := s.cup
  tabs := s.tabs
  n0 := fun a h => s.dom a (E.n0 a h)
  slot := fun i x h => (E.slot i x h).mv (E.mv s) h fun b hb => E.at_step s hb
  uniq := fun i j a h1 h2 => E.uniq i j a ((OwnAt.same E fun b hb => E.at_step s hb).mp h1) ((OwnAt.same E fun b hb => E.at_step s hb).mp h2)
  fresh := fun i a h => E.fresh i a ((OwnAt.same E fun b hb => E.at_step s hb).mp h)
  th := E.th
theorem ER.refl (E : ER p g σ env H) : Step p g.C H H := ⟨fun _ _ h _ _ => h, E.cup, E.tabs, fun _ h => h⟩
theorem Tabs.upd {a : Addr} {o : HO} (t : LamX.Tabs p.tb.l H) (h : H a = none) : LamX.Tabs p.tb.l (upd H a o) := t.ext fun b u e => by
  rw [upd_ne (ne_of_none e h)]; exact e
theorem Step.alloc {C : Addr → Prop} {a : Addr} {o : HO} (hc : ∀ a, C a → CupAt H a) (t : LamX.Tabs p.tb.l H) (h : H a = none) : Step p C H (upd H a o) where
  grow := fun b u e _ _ => by rw [upd_ne (ne_of_none e h)]; exact e
  cup := fun b c => by
    obtain ⟨x, y, e, q⟩ := hc b c
    exact ⟨x, y, by rw [upd_ne (ne_of_none e h)]; exact e, q⟩
  tabs := Tabs.upd t h
  dom := fun b ⟨u, e, t⟩ => ⟨u, by rw [upd_ne (ne_of_none e h)]; exact e, t⟩
theorem ER.alloc (E : ER p g σ env H) {a : Addr} {o : HO} (h : H a = none) : Step p g.C H (upd H a o) := Step.alloc E.cup E.tabs h

/-- an object of ours that no slot holds yet -/
def Gh.fl (g : Gh) (a : Addr) : Gh := { g with N0 := fun b => g.N0 b ∨ b = a, hC := fun b c => .inl (g.hC b c) }
theorem Gh.fl_comm (g : Gh) (a b : Addr) : (g.fl a).fl b = (g.fl b).fl a := by
  unfold Gh.fl
  congr 1
  funext c
  apply propext
  constructor
  · rintro ((h | h) | h)
    · exact .inl (.inl h)
    · exact .inr h
    · exact .inl (.inr h)
  · rintro ((h | h) | h)
    · exact .inl (.inl h)
    · exact .inr h
    · exact .inl (.inr h)
theorem ER.flo (E : ER p g σ env H) {a : Addr} (ha : Ob H a) (hn : ∀ i, ¬ OwnAt σ env H i a) : ER p (g.fl a) σ env H := by
  refine ⟨E.len, E.keep, E.dom, E.cup, E.tabs, ?_, fun i s h => E.slot i s h, E.uniq, fun i b hb => ⟨?_, (E.fresh i b hb).2⟩, E.th⟩
  · rintro b (z | z)
    · exact E.n0 b z
    · subst z; exact ha
  · rintro (z | z)
    · exact (E.fresh i b hb).1 z
    · subst z; exact hn i hb
theorem ER.float (E : ER p g σ env H) {a : Addr} {o : HO} (h : H a = none) (ho : ∀ ps, o ≠ .tbl ps := by intro ps; simp) : ER p (g.fl a) σ env (upd H a o) := by
  have s := E.alloc (o := o) h
  refine (E.step s).flo ⟨_, upd_same, ho⟩ fun i z => ?_
  obtain ⟨u, e, m⟩ := E.objAt ((OwnAt.same E fun b hb => E.at_step s hb).mp z)
  rw [h] at e; cases e
theorem ER.sink {a : Addr} (E : ER p (g.fl a) σ env H) : ER p g σ env H :=
  ⟨E.len, E.keep, E.dom, E.cup, E.tabs, fun b z => E.n0 b (.inl z), fun i s h => E.slot i s h, E.uniq, fun i b hb => ⟨fun z => (E.fresh i b hb).1 (.inl z), (E.fresh i b hb).2⟩, E.th⟩

/-! ### slots set -/
theorem set_self_eq {α : Type} {l : List α} {i : Nat} {x y : α} (h : (l.set i x)[i]? = some y) : y = x := by
  by_cases hi : i < l.length
  · rw [List.getElem?_set_self hi] at h; exact (Option.some.inj h).symm
  · rw [List.getElem?_eq_none (by simpa using hi)] at h; cases h
theorem OwnAt.set {σ : St} {env : Env} {i j : Nat} {a : Addr} {v : Option V} {x : Sl} (hij : j ≠ i) : OwnAt (σ.set i v) (env.set i x) H j a ↔ OwnAt σ env H j a := by
  unfold OwnAt
  rw [List.getElem?_set_ne (Ne.symm hij), List.getElem?_set_ne (Ne.symm hij)]
theorem OwnAt.set_env {σ : St} {env : Env} {i j : Nat} {a : Addr} {x : Sl} (hij : j ≠ i) : OwnAt σ (env.set i x) H j a ↔ OwnAt σ env H j a := by
  unfold OwnAt
  rw [List.getElem?_set_ne (Ne.symm hij)]
theorem OwnAt.not_own {σ : St} {env : Env} {i : Nat} {a : Addr} {s : Sl} (h : env[i]? = some s) (h1 : ∀ d, s ≠ .own d) (h2 : ∀ d, s ≠ .own2 d) : ¬ OwnAt σ env H i a := by
  rintro (⟨⟨d, e⟩, _⟩ | ⟨⟨d, e⟩, _⟩) <;> rw [h] at e <;> cases e
  · exact h1 _ rfl
  · exact h2 _ rfl
theorem OwnAt.set_frz {σ : St} {env : Env} {i : Nat} {a : Addr} {v : Option V} {d : D} : ¬ OwnAt (σ.set i v) (env.set i (.frz d)) H i a := by
  rintro (⟨⟨d', e⟩, _⟩ | ⟨⟨d', e⟩, _⟩) <;> cases set_self_eq e
theorem OwnAt.set_no {σ : St} {env : Env} {i : Nat} {a : Addr} {v : Option V} : ¬ OwnAt (σ.set i v) (env.set i .no) H i a := by
  rintro (⟨⟨d', e⟩, _⟩ | ⟨⟨d', e⟩, _⟩) <;> cases set_self_eq e
theorem SlOk.set {i j : Nat} {v : Option V} {s : Sl} (hij : j ≠ i) (h : SlOk p g σ H j s) : SlOk p g (σ.set i v) H j s := by
  have e : (σ.set i v)[j]? = σ[j]? := List.getElem?_set_ne (Ne.symm hij)
  cases s with
  | no => trivial
  | frz d => obtain ⟨v, h, r⟩ := h; exact ⟨v, e.trans h, r⟩
  | own d => obtain ⟨v, h, r⟩ := h; exact ⟨v, e.trans h, r⟩
  | own2 d => obtain ⟨v, bs, h, r⟩ := h; exact ⟨v, bs, e.trans h, r⟩
/-- a slot takes a frozen thing -/
theorem ER.setF (E : ER p g σ env H) {i : Nat} (hi : i < env.length) {d : D} {v : V} (r : Rep p g.C H d v) : ER p g (σ.set i (some v)) (env.set i (.frz d)) H := by
  refine ⟨by simpa using E.len, E.keep, E.dom, E.cup, E.tabs, E.n0, ?_, ?_, ?_, E.th⟩
  · intro j x hx
    by_cases hj : j = i
    · subst hj
      rw [List.getElem?_set_self hi] at hx
      cases hx
      exact ⟨v, by rw [List.getElem?_set_self (by rw [E.len]; exact hi)], r⟩
    · rw [List.getElem?_set_ne (Ne.symm hj)] at hx
      exact (E.slot j x hx).set hj
  · intro j k b h1 h2
    by_cases hj : j = i
    · subst hj; exact (OwnAt.set_frz h1).elim
    · by_cases hk : k = i
      · subst hk; exact (OwnAt.set_frz h2).elim
      · exact E.uniq j k b ((OwnAt.set hj).mp h1) ((OwnAt.set hk).mp h2)
  · intro j b h1
    by_cases hj : j = i
    · subst hj; exact (OwnAt.set_frz h1).elim
    · exact E.fresh j b ((OwnAt.set hj).mp h1)
/-- a slot is forgotten -/
theorem ER.setN (E : ER p g σ env H) {i : Nat} {v : Option V} : ER p g (σ.set i v) (env.set i .no) H := by
  refine ⟨by simpa using E.len, E.keep, E.dom, E.cup, E.tabs, E.n0, ?_, ?_, ?_, E.th⟩
  · intro j x hx
    by_cases hj : j = i
    · subst hj
      cases set_self_eq hx
      trivial
    · rw [List.getElem?_set_ne (Ne.symm hj)] at hx
      exact (E.slot j x hx).set hj
  · intro j k b h1 h2
    by_cases hj : j = i
    · subst hj; exact (OwnAt.set_no h1).elim
    · by_cases hk : k = i
      · subst hk; exact (OwnAt.set_no h2).elim
      · exact E.uniq j k b ((OwnAt.set hj).mp h1) ((OwnAt.set hk).mp h2)
  · intro j b h1
    by_cases hj : j = i
    · subst hj; exact (OwnAt.set_no h1).elim
    · exact E.fresh j b ((OwnAt.set hj).mp h1)
/-- a slot takes what floats -/
theorem ER.setO {a : Addr} (E : ER p (g.fl a) σ env H) {i : Nat} (hi : i < env.length) {d : D} (hn : ¬ g.N0 a) (h0 : ¬ Ob g.H0 a) (r : OwnRep p g.C H d a) :
    ER p g (σ.set i (some (.ref a))) (env.set i (.own d)) H := by
  have at_i : ∀ b, OwnAt (σ.set i (some (.ref a))) (env.set i (.own d)) H i b → b = a := fun b h => by
    rcases h with ⟨_, e⟩ | ⟨⟨_, e⟩, _⟩
    · cases set_self_eq e; rfl
    · cases set_self_eq e
  have ne : ∀ j b, OwnAt σ env H j b → b ≠ a := fun j b h z => (E.fresh j b h).1 (.inr z)
  refine ⟨by simpa using E.len, E.keep, E.dom, E.cup, E.tabs, fun b z => E.n0 b (.inl z), ?_, ?_, ?_, E.th⟩
  · intro j x hx
    by_cases hj : j = i
    · subst hj
      rw [List.getElem?_set_self hi] at hx
      cases hx
      exact ⟨a, by rw [List.getElem?_set_self (by rw [E.len]; exact hi)], r⟩
    · rw [List.getElem?_set_ne (Ne.symm hj)] at hx
      exact SlOk.set hj (E.slot j x hx)
  · intro j k b h1 h2
    by_cases hj : j = i
    · subst hj
      by_cases hk : k = j
      · exact hk.symm
      · exact (ne k b ((OwnAt.set hk).mp h2) (at_i b h1)).elim
    · by_cases hk : k = i
      · subst hk; exact (ne j b ((OwnAt.set hj).mp h1) (at_i b h2)).elim
      · exact E.uniq j k b ((OwnAt.set hj).mp h1) ((OwnAt.set hk).mp h2)
  · intro j b h1
    by_cases hj : j = i
    · subst hj
      have z := at_i b h1
      subst z
      exact ⟨hn, h0⟩
    · have q := E.fresh j b ((OwnAt.set hj).mp h1)
      exact ⟨fun z => q.1 (.inl z), q.2⟩

/-! ### what is let go is locked -/
/-- the things at bs are locked, nothing else moves -/
structure LkR (bs : List Addr) (H H' : Hp) : Prop where
  out : ∀ b, b ∉ bs → H' b = H b
  lk : ∀ b ∈ bs, ∀ u, H b = some u → ∃ o, H' b = some (.frz o u)
inductive LQ (Q : Hp → Prop) : Hp → Prop
  | done {H : Hp} (h : Q H) : LQ Q H
  | lock {H : Hp} (d : Addr) (u : HO) (h : H d = some u) (m : Mut (some u)) (q : ∀ o, LQ Q (upd H d (.frz o u))) : LQ Q H
theorem LQ.run {X : Cx} {pins : List (Addr × Obj)} {s : Shared} {Q : Hp → Prop} (q : LQ Q H) : Inv X pins σ H s → ∃ H', Inv X pins σ H' s ∧ Q H' := by
  induction q with
  | done h => exact fun I => ⟨_, I, h⟩
  | lock d u h m q ih =>
    intro I
    obtain ⟨o, I'⟩ := I.lock h m
    exact ih o I'
theorem LQ.all {Q : Hp → Prop} : ∀ {bs : List Addr} {H : Hp}, bs.Nodup → (∀ b ∈ bs, ∃ u, H b = some u ∧ Mut (some u)) → (∀ H', LkR bs H H' → Q H') → LQ Q H
  | [], H, _, _, q => .done (q H ⟨fun _ _ => rfl, fun _ h => absurd h List.not_mem_nil⟩)
  | b :: bs, H, nd, hm, q => by
    obtain ⟨u, hu, mu⟩ := hm b List.mem_cons_self
    have hb : b ∉ bs := (List.nodup_cons.mp nd).1
    refine .lock b u hu mu fun o => LQ.all (List.nodup_cons.mp nd).2 (fun c hc => ?_) fun H' l => q H' ⟨fun c hc => ?_, fun c hc v hv => ?_⟩
    · rw [upd_ne (fun z => hb (by rw [← z]; exact hc))]
      exact hm c (List.mem_cons_of_mem _ hc)
    · simp only [List.mem_cons, not_or] at hc
      rw [l.out c hc.2, upd_ne hc.1]
    · by_cases z : c = b
      · subst z
        rw [hu] at hv; cases hv
        exact ⟨o, by rw [l.out c hb, upd_same]⟩
      · rcases List.mem_cons.mp hc with z' | hc
        · exact absurd z' z
        · exact l.lk c hc v (by rw [upd_ne z]; exact hv)
theorem LkR.mv {bs : List Addr} (l : LkR bs H H') (hm : ∀ b ∈ bs, ∃ u, H b = some u ∧ Md u) : Mv H H' := by
  have ne : ∀ b u, H b = some u → ¬ Md u → b ∉ bs := fun b u h n hb => by
    obtain ⟨v, e, m⟩ := hm b hb
    rw [h] at e; cases e
    exact n m
  exact ⟨fun b xs h => by rw [l.out b (ne b _ h fun z => z)]; exact h, fun b o u h => by rw [l.out b (ne b _ h fun z => z)]; exact h⟩
theorem LkR.ob {bs : List Addr} (l : LkR bs H H') {b : Addr} (h : Ob H b) : Ob H' b := by
  obtain ⟨u, e, t⟩ := h
  by_cases hb : b ∈ bs
  · obtain ⟨o, e'⟩ := l.lk b hb u e
    exact ⟨_, e', fun _ => by simp⟩
  · exact ⟨u, by rw [l.out b hb]; exact e, t⟩
theorem tabs_oth {T : List (Addr × Str)} (t : LamX.Tabs T H) (oth : ∀ b u, H b = some u → ¬ Md u → H' b = some u) : LamX.Tabs T H' := by
  intro q hq
  obtain ⟨ps, hps, tr, hc⟩ := t q hq
  refine ⟨ps, oth _ _ hps fun z => z, tr, fun pos cv hcv => ?_⟩
  obtain ⟨c, e, hc⟩ := hc pos cv hcv
  exact ⟨c, e, oth _ _ hc fun z => by simp [LamX.CodeO, Md] at z⟩
theorem OwnRep.frz {C : Addr → Prop} (m : Mv H H') {d : D} {a : Addr} (h : OwnRep p C H d a) (k : ∀ u, H a = some u → ∃ o, H' a = some (.frz o u)) : Rep p C H' d (.ref a) := by
  cases d with
  | lst xs => obtain ⟨vs, e, l, r⟩ := h; simp only [Rep]; exact ⟨a, vs, rfl, k _ e, l, r.mv m⟩
  | dic xs => obtain ⟨vs, e, l, r⟩ := h; simp only [Rep]; exact ⟨a, vs, rfl, k _ e, l, RepK.mv m r⟩
  | dit xs => obtain ⟨vs, e, l, r⟩ := h; simp only [Rep]; exact ⟨a, vs, rfl, k _ e, l, RepT.mv m r⟩
  | _ => exact h.elim
theorem OwnL.frz {C : Addr → Prop} (m : Mv H H') : ∀ {ds : List D} {vs : List V} {bs : List Addr}, OwnL p C H ds vs bs → (∀ b ∈ bs, ∀ u, H b = some u → ∃ o, H' b = some (.frz o u)) → RepL p C H' ds vs
  | [], _, _, h, _ => by obtain ⟨rfl, rfl⟩ := h; simp [RepL]
  | d :: ds, _, _, h, k => by
    obtain ⟨b, ws, cs, rfl, rfl, r, q⟩ := h
    simp only [RepL]
    exact ⟨_, ws, rfl, r.frz m (k b List.mem_cons_self), OwnL.frz m q fun c hc => k c (List.mem_cons_of_mem _ hc)⟩
theorem OwnK.frz {C : Addr → Prop} (m : Mv H H') : ∀ {ds : List (D × D)} {vs : List (Key × V)} {bs : List Addr}, OwnK p C H ds vs bs → (∀ b ∈ bs, ∀ u, H b = some u → ∃ o, H' b = some (.frz o u)) → RepK p C H' ds vs
  | [], _, _, h, _ => by obtain ⟨rfl, rfl⟩ := h; simp [RepK]
  | (_, d) :: ds, _, _, h, k => by
    obtain ⟨kk, b, ws, cs, rfl, rfl, rk, r, q⟩ := h
    simp only [RepK]
    exact ⟨kk, _, ws, rfl, rk.mv m, r.frz m (k b List.mem_cons_self), OwnK.frz m q fun c hc => k c (List.mem_cons_of_mem _ hc)⟩
theorem OwnRep2.frz {C : Addr → Prop} (m : Mv H H') {d : D} {a : Addr} {bs : List Addr} (h : OwnRep2 p C H d a bs) (k : ∀ b ∈ a :: bs, ∀ u, H b = some u → ∃ o, H' b = some (.frz o u)) : Rep p C H' d (.ref a) := by
  cases d with
  | lst xs => obtain ⟨vs, e, l, r⟩ := h; simp only [Rep]; exact ⟨a, vs, rfl, k a List.mem_cons_self _ e, l, r.frz m fun b hb => k b (List.mem_cons_of_mem _ hb)⟩
  | dic xs => obtain ⟨vs, e, l, r⟩ := h; simp only [Rep]; exact ⟨a, vs, rfl, k a List.mem_cons_self _ e, l, r.frz m fun b hb => k b (List.mem_cons_of_mem _ hb)⟩
  | _ => exact h.elim
/-- the rest of the store, where own things are locked -/
theorem ER.lk (E : ER p g σ env H) {i : Nat} {bs : List Addr} {d : D} {v : V} (hb : ∀ b ∈ bs, OwnAt σ env H i b) (l : LkR bs H H') (hi : i < env.length) (hs : σ[i]? = some (some v)) (r : Rep p g.C H' d v) : ER p g σ (env.set i (.frz d)) H' := by
  have mutb : ∀ b ∈ bs, ∃ u, H b = some u ∧ Md u := fun b h => E.objAt (hb b h)
  have m := l.mv mutb
  have oth : ∀ j, j ≠ i → ∀ b, OwnAt σ env H j b → H' b = H b := fun j hj b h => l.out b fun z => hj (E.uniq j i b h (hb b z))
  have nf : ∀ b, ¬ OwnAt σ (env.set i (.frz d)) H' i b := fun b z => by
    rcases z with ⟨⟨d', e⟩, _⟩ | ⟨⟨d', e⟩, _⟩ <;> cases set_self_eq e
  have same : ∀ j, j ≠ i → ∀ b, OwnAt σ (env.set i (.frz d)) H' j b → OwnAt σ env H j b := fun j hj b z => (OwnAt.same E (oth j hj)).mp ((OwnAt.set_env hj).mp z)
  refine ⟨by simpa using E.len, fun b o h n t => ?_, fun b h => l.ob (E.dom b h), fun b c => ?_, ?_, fun b z => l.ob (E.n0 b z), ?_, ?_, ?_, E.th⟩
  · rw [l.out b fun z => (E.fresh i b (hb b z)).2 ⟨o, h, t⟩]
    exact E.keep b o h n t
  · obtain ⟨x, y, e, q⟩ := E.cup b c
    exact ⟨x, y, by rw [l.out b fun z => E.nc (hb b z) c]; exact e, q⟩
  · refine tabs_oth E.tabs fun b u e n1 => ?_
    rw [l.out b fun z => ?_]
    · exact e
    · obtain ⟨v, e', mu⟩ := mutb b z
      rw [e] at e'; cases e'
      exact n1 mu
  · intro j x hx
    by_cases hj : j = i
    · subst hj
      cases set_self_eq hx
      exact ⟨v, hs, r⟩
    · rw [List.getElem?_set_ne (Ne.symm hj)] at hx
      exact (E.slot j x hx).mv m hx (oth j hj)
  · intro j k b h1 h2
    by_cases hj : j = i
    · subst hj; exact (nf b h1).elim
    · by_cases hk : k = i
      · subst hk; exact (nf b h2).elim
      · exact E.uniq j k b (same j hj b h1) (same k hk b h2)
  · intro j b h1
    by_cases hj : j = i
    · subst hj; exact (nf b h1).elim
    · exact E.fresh j b (same j hj b h1)

theorem ER.freeze (E : ER p g σ env H) {i : Nat} {d : D} (h : env[i]? = some (.own d)) {Q : Hp → Prop} (q : ∀ H', ER p g σ (env.set i (.frz d)) H' → Mv H H' → (∀ b, Ob H b → Ob H' b) → Q H') : LQ Q H := by
  obtain ⟨a, hs, r⟩ := E.slot i _ h
  have hi : i < env.length := (List.getElem?_eq_some_iff.mp h).1
  have hoi : ∀ b ∈ [a], OwnAt σ env H i b := fun b hb => by
    have : b = a := by simpa using hb
    subst this
    exact .inl ⟨⟨d, h⟩, hs⟩
  refine LQ.all (bs := [a]) (by simp) (fun b hb => let ⟨u, e, m⟩ := E.objAt (hoi b hb); ⟨u, e, m.mut⟩) fun H' l => ?_
  have m := l.mv fun b hb => E.objAt (hoi b hb)
  exact q H' (E.lk hoi l hi hs (r.frz m (l.lk a (by simp)))) m fun b => l.ob
theorem ER.freeze2 (E : ER p g σ env H) {i : Nat} {d : D} (h : env[i]? = some (.own2 d)) {Q : Hp → Prop} (q : ∀ H', ER p g σ (env.set i (.frz d)) H' → Mv H H' → (∀ b, Ob H b → Ob H' b) → Q H') : LQ Q H := by
  obtain ⟨a, bs, hs, nd, r⟩ := E.slot i _ h
  have hi : i < env.length := (List.getElem?_eq_some_iff.mp h).1
  have hoi : ∀ b ∈ a :: bs, OwnAt σ env H i b := fun b hb => by
    refine .inr ⟨⟨d, h⟩, a, hs, ?_⟩
    rcases List.mem_cons.mp hb with z | z
    · exact .inl z
    · exact .inr ((r.inner b).mpr z)
  refine LQ.all nd (fun b hb => let ⟨u, e, m⟩ := E.objAt (hoi b hb); ⟨u, e, m.mut⟩) fun H' l => ?_
  have m := l.mv fun b hb => E.objAt (hoi b hb)
  exact q H' (E.lk hoi l hi hs (r.frz m l.lk)) m fun b => l.ob
/-- what floats is let go -/
theorem ER.drop {a : Addr} (E : ER p (g.fl a) σ env H) (h0 : ¬ Ob g.H0 a) {C : Addr → Prop} {d : D} (nc : ¬ g.C a) (r : OwnRep p C H d a) {Q : Hp → Prop} (q : ∀ H', ER p g σ env H' → Mv H H' → LkR [a] H H' → Rep p C H' d (.ref a) → Q H') : LQ Q H := by
  obtain ⟨u, hu, mu⟩ := r.obj
  have mutb : ∀ b ∈ [a], ∃ u, H b = some u ∧ Md u := fun b hb => by
    have : b = a := by simpa using hb
    subst this
    exact ⟨u, hu, mu⟩
  refine LQ.all (bs := [a]) (by simp) (fun b hb => let ⟨u, e, m⟩ := mutb b hb; ⟨u, e, m.mut⟩) fun H' l => ?_
  have m := l.mv mutb
  have oth : ∀ j b, OwnAt σ env H j b → H' b = H b := fun j b h => l.out b fun z => (E.fresh j b h).1 (.inr (by simpa using z))
  refine q H' ⟨E.len, fun b o h n t => ?_, fun b h => l.ob (E.dom b h), fun b c => ?_, ?_, fun b z => l.ob (E.n0 b (.inl z)), ?_, ?_, ?_, E.th⟩ m l (r.frz m (l.lk a (by simp)))
  · rw [l.out b fun z => h0 (by rw [show b = a by simpa using z] at h; exact ⟨o, h, t⟩)]
    exact E.keep b o h n t
  · obtain ⟨x, y, e, q⟩ := E.cup b c
    exact ⟨x, y, by rw [l.out b fun z => nc (by rw [← show b = a by simpa using z]; exact c)]; exact e, q⟩
  · refine tabs_oth E.tabs fun b u e n1 => ?_
    rw [l.out b fun z => ?_]
    · exact e
    · obtain ⟨v, e', mu⟩ := mutb b z
      rw [e] at e'; cases e'
      exact n1 mu
  · intro j x hx
    exact SlOk.mv (g := g) m (E.slot j x hx) hx (oth j)
  · exact fun i j b h1 h2 => E.uniq i j b ((OwnAt.same E (oth i)).mp h1) ((OwnAt.same E (oth j)).mp h2)
  · intro i b h
    have z := E.fresh i b ((OwnAt.same E (oth i)).mp h)
    exact ⟨fun w => z.1 (.inl w), z.2⟩
/-- what a slot owns is written: the slot's things are those of before, or new -/
theorem ER.write (E : ER p g σ env H) {i : Nat} {d d' : D} {a : Addr} {o : HO} (h : env[i]? = some (.own d)) (hs : σ[i]? = some (some (.ref a))) (ho : ∀ ps, o ≠ .tbl ps)
    (r : Mv H (upd H a o) → OwnRep p g.C (upd H a o) d' a) : ER p g σ (env.set i (.own d')) (upd H a o) := by
  have hi : i < env.length := (List.getElem?_eq_some_iff.mp h).1
  have hoi : OwnAt σ env H i a := .inl ⟨⟨d, h⟩, hs⟩
  obtain ⟨u, hu, mu⟩ := E.objAt hoi
  have own' : ∀ b, OwnAt σ (env.set i (.own d')) (upd H a o) i b → b = a := fun b z => by
    rcases z with ⟨_, e⟩ | ⟨⟨_, e⟩, _⟩
    · rw [hs] at e; cases e; rfl
    · cases set_self_eq e
  have oth : ∀ b v, H b = some v → ¬ Md v → upd H a o b = some v := fun b v hv n => by
    rw [upd_ne]
    · exact hv
    · rintro rfl
      rw [hu] at hv; cases hv
      exact n mu
  have mv : Mv H (upd H a o) := ⟨fun b xs hb => oth b _ hb fun z => z, fun b u w hb => oth b _ hb fun z => z⟩
  have dm : ∀ b, Ob H b → Ob (upd H a o) b := fun b ⟨u, e, t⟩ => by
    by_cases z : b = a
    · subst z; exact ⟨o, upd_same, ho⟩
    · exact ⟨u, by rw [upd_ne z]; exact e, t⟩
  have fr := E.fresh i a hoi
  have ne : ∀ j, j ≠ i → ∀ b, OwnAt σ env H j b → upd H a o b = H b := fun j hj b hb => upd_ne fun z => hj (E.uniq j i a (by rw [← z]; exact hb) hoi)
  have same : ∀ j, j ≠ i → ∀ b, OwnAt σ (env.set i (.own d')) (upd H a o) j b → OwnAt σ env H j b := fun j hj b z => (OwnAt.same E (ne j hj)).mp ((OwnAt.set_env hj).mp z)
  refine ⟨by simpa using E.len, fun b u hu n t => ?_, fun b hb => dm b (E.dom b hb), fun b c => ?_, tabs_oth E.tabs oth, fun b z => dm b (E.n0 b z), ?_, ?_, ?_, E.th⟩
  · have z : b ≠ a := fun z => fr.2 ⟨u, by rw [← z]; exact hu, t⟩
    rw [upd_ne z]; exact E.keep b u hu n t
  · obtain ⟨x, y, e, q⟩ := E.cup b c
    refine ⟨x, y, ?_, q⟩
    rw [upd_ne (show b ≠ a from fun z => fr.1 (by rw [← z]; exact g.hC b c))]; exact e
  · intro j x hx
    by_cases hj : j = i
    · subst hj
      rw [List.getElem?_set_self hi] at hx
      cases hx
      exact ⟨a, hs, r mv⟩
    · rw [List.getElem?_set_ne (Ne.symm hj)] at hx
      exact (E.slot j x hx).mv mv hx (ne j hj)
  · intro j k b h1 h2
    by_cases hj : j = i
    · by_cases hk : k = i
      · rw [hj, hk]
      · subst hj
        have z := own' b h1
        subst z
        exact (E.uniq k j b (same k hk b h2) hoi).symm
    · by_cases hk : k = i
      · subst hk
        have z := own' b h2
        subst z
        exact E.uniq j k b (same j hj b h1) hoi
      · exact E.uniq j k b (same j hj b h1) (same k hk b h2)
  · intro j b h1
    by_cases hj : j = i
    · subst hj
      have z := own' b h1
      subst z
      exact fr
    · exact E.fresh j b (same j hj b h1)
end

/-! ### what a statement leaves of the heap -/
structure SStep (H H' : Hp) : Prop where
  mv : Mv H H'
  dom : ∀ b, Ob H b → Ob H' b
section
variable {p : Pg} {g : Gh} {σ σ1 σ2 : St} {env env1 env2 : Env} {H H1 H2 : Hp}
theorem SStep.trans (a : SStep H H1) (b : SStep H1 H2) : SStep H H2 := ⟨a.mv.trans b.mv, fun c h => b.dom c (a.dom c h)⟩
theorem Step.s (E : ER p g σ env H) (s : Step p g.C H H1) : SStep H H1 := ⟨E.mv s, s.dom⟩
theorem SStep.refl : SStep H H := ⟨.refl, fun _ h => h⟩
end
end MM

namespace MM
open PySem PySem.Spec L2

/-! ### the judgements -/
abbrev pgOf (X : Cx) (tb : Tb) : Pg := ⟨X.K, X.mg, tb⟩
def ofO {α : Type} : Option α → T α
  | some a => .ret a
  | none => .bad
/-- how an exception lies -/
def ExR (p : Pg) (C : Addr → Prop) (H : Hp) (x : Ex) (cls : Value) (dx : Option Addr) : Prop :=
  p.mg x.cls = some cls ∧ match x.fld with
    | none => True
    | some (f, d) => ∃ a fs v, dx = some a ∧ H a = some (.xd fs) ∧ fs.lookup f = some v ∧ Rep p C H d v
def XP (p : Pg) (g : Gh) (σ : St) (H : Hp) (W : WX) : Ex → Prop := fun x => ∀ cls dx H', Step p g.C H H' → ExR p g.C H' x cls dx → W cls dx σ H'
def XPs (p : Pg) (g : Gh) (σ : St) (env : Env) (H : Hp) (W : WX) : Ex → Prop := fun x => ∀ cls dx σ' env' H', ER p g σ' env' H' → SStep H H' → ExR p g.C H' x cls dx → W cls dx σ' H'
def ImpE (p : Pg) (W : WX) (t : TE) (f : Env → T D) : Prop := ∀ g σ env H (Q : VK), ER p g σ env H →
  (f env).wp (fun d => ∀ v H', Step p g.C H H' → Rep p g.C H' d v → Q v H') (XP p g σ H W) → t σ H Q
def ImpP (p : Pg) (W : WX) (t : TE) (f : Env → T D) : Prop := ∀ g σ env H (Q : VK), ER p g σ env H →
  (f env).wp (fun d => ∀ v H', Step p g.C H H' → RepP p g.C H' d v → Q v H') (XP p g σ H W) → t σ H Q
def ImpT (p : Pg) (W : WX) (t : TT) (f : Env → T Bool) : Prop := ∀ g σ env H (Q : Bool → Hp → Prop), ER p g σ env H →
  (f env).wp (fun b => ∀ H', Step p g.C H H' → Q b H') (XP p g σ H W) → t σ H Q
def ImpA (p : Pg) (W : WX) (t : TA) (f : Env → T (List D)) : Prop := ∀ g σ env H (Q : List V → Hp → Prop), ER p g σ env H →
  (f env).wp (fun ds => ∀ vs H', Step p g.C H H' → RepL p g.C H' ds vs → Q vs H') (XP p g σ H W) → t σ H Q
/-- an expression whose value nobody else holds: it floats -/
def ImpO (p : Pg) (W : WX) (t : TE) (f : Env → T D) : Prop := ∀ g σ env H (Q : VK), ER p g σ env H →
  (f env).wp (fun d => ∀ a H', Step p g.C H H' → ER p (g.fl a) σ env H' → ¬ g.N0 a → ¬ Ob g.H0 a → ¬ Ob H a → OwnRep p g.C H' d a → Q (.ref a) H') (XP p g σ H W) → t σ H Q
section
variable (X : Cx) (tb : Tb) (W : WX)
structure QE (e : Expr) (f : Env → T D) : Prop where
  ex : ∃ t, PE X e t ∧ ImpE (pgOf X tb) W t f
structure QP (e : Expr) (f : Env → T D) : Prop where
  ex : ∃ t, PE X e t ∧ ImpP (pgOf X tb) W t f
structure QO (e : Expr) (f : Env → T D) : Prop where
  ex : ∃ t, PE X e t ∧ ImpO (pgOf X tb) W t f
structure QT (e : Expr) (f : Env → T Bool) : Prop where
  ex : ∃ t, PT X e t ∧ ImpT (pgOf X tb) W t f
structure QW (e : Expr) (f : Env → T Bool) : Prop where
  ex : ∃ t, PW X e t ∧ ImpT (pgOf X tb) W t f
structure QA (es : List Expr) (f : Env → T (List D)) : Prop where
  ex : ∃ t, PA X es t ∧ ImpA (pgOf X tb) W t f
end
inductive Fl where
  | nx (env : Env) | rt (d : D) | bk (env : Env) | ct (env : Env)
def FlP (p : Pg) (g : Gh) (σ : St) (env : Env) (H : Hp) (Dn : Ends) : Fl → Prop
  | .nx e' => ∀ σ' H', ER p g σ' e' H' → SStep H H' → Dn.nx σ' H'
  | .bk e' => ∀ σ' H', ER p g σ' e' H' → SStep H H' → Dn.bk σ' H'
  | .ct e' => ∀ σ' H', ER p g σ' e' H' → SStep H H' → Dn.ct σ' H'
  | .rt d => ∀ v σ' e' H', ER p g σ' e' H' → SStep H H' → Rep p g.C H' d v → Dn.rt v H'
def ImpS (p : Pg) (W : WX) (t : TS) (f : Env → T Fl) : Prop := ∀ g σ env H (Dn : Ends), ER p g σ env H →
  (f env).wp (FlP p g σ env H Dn) (XPs p g σ env H W) → t Dn σ H
structure QS (X : Cx) (tb : Tb) (W : WX) (st : Stmt) (f : Env → T Fl) : Prop where
  ex : ∃ t, PS X st t ∧ ImpS (pgOf X tb) W t f
structure QB (X : Cx) (tb : Tb) (W : WX) (st : List Stmt) (f : Env → T Fl) : Prop where
  ex : ∃ t, PSs X st t ∧ ImpS (pgOf X tb) W t f

section
variable {X : Cx} {tb : Tb} {W : WX} {pos : Pos}
/-! ### coercions -/
theorem QE.p {e : Expr} {f : Env → T D} (h : QE X tb W e f) : QP X tb W e f := by
  obtain ⟨t, h1, h2⟩ := h.ex
  exact ⟨t, h1, fun g σ env H Q E hw => h2 g σ env H Q E (T.wp_mono (fun d q v H' s r => q v H' s (r.p s.cup)) (fun _ x => x) hw)⟩
theorem pe_lq {e : Expr} {t : TE} (h : PE X e t) : PE X e (fun σ H Q => t σ H fun v H' => LQ (Q v) H') := by
  refine ⟨fun pins s σ H Q I hw => ?_⟩
  refine thn (h.run pins s σ H _ I hw) fun v s1 ⟨x, H1, I1, r, q⟩ => ?_
  obtain ⟨H2, I2, q⟩ := q.run I1
  exact ⟨x, H2, I2, r, q⟩
theorem pss_lq {st : List Stmt} {t : TS} (h : PSs X st t) : PSs X st (fun Dn σ H => LQ (fun H' => t Dn σ H') H) := by
  refine ⟨fun pins s σ H Dn I hw => ?_⟩
  obtain ⟨H2, I2, q⟩ := hw.run I
  exact h.run pins s σ H2 Dn I2 q
/-- what is new is let go -/
theorem ER.letgo {p : Pg} {g : Gh} {σ : St} {env : Env} {H H' : Hp} (s : Step p g.C H H') {a : Addr} (E : ER p (g.fl a) σ env H') (n0 : ¬ g.N0 a) (h0 : ¬ Ob g.H0 a) (hf : ¬ Ob H a) {d : D} (r : OwnRep p g.C H' d a) {Q : Hp → Prop}
    (q : ∀ H2, Step p g.C H H2 → ER p g σ env H2 → Rep p g.C H2 d (.ref a) → Q H2) : LQ Q H' := by
  refine E.drop h0 (fun c => n0 (g.hC a c)) r fun H2 E2 m l r2 => q H2 ⟨fun b o hb n t => ?_, E2.cup, E2.tabs, fun b hb => l.ob (s.dom b hb)⟩ E2 r2
  rw [l.out b fun z => hf (by rw [← show b = a by simpa using z]; exact ⟨o, hb, t⟩)]
  exact s.grow b o hb n t
theorem ER.newL {p : Pg} {g : Gh} {σ : St} {env : Env} {H : Hp} (E : ER p g σ env H) {a : Addr} (h : H a = none) {o : HO} {d : D} {Q : Hp → Prop} (r : OwnRep p g.C (upd H a o) d a) (q : ∀ H2, Step p g.C H H2 → Rep p g.C H2 d (.ref a) → Q H2) : LQ Q (upd H a o) := by
  have ho : ∀ ps, o ≠ .tbl ps := by
    obtain ⟨u, e, m⟩ := r.obj
    rw [upd_same] at e; cases e
    exact m.tb
  exact ER.letgo (E.alloc h) (E.float h ho) (fun z => nOb h (E.n0 a z)) (fun z => nOb h (E.dom a z)) (nOb h) r fun H2 s _ r => q H2 s r
theorem QO.e {e : Expr} {f : Env → T D} (h : QO X tb W e f) : QE X tb W e f := by
  obtain ⟨t, h1, h2⟩ := h.ex
  refine ⟨_, pe_lq h1, fun g σ env H Q E hw => h2 g σ env H _ E (T.wp_mono (fun d q a H' s E' n0 h0 hf r => ?_) (fun _ x => x) hw)⟩
  exact E'.letgo s n0 h0 hf r fun H2 s2 _ r2 => q _ H2 s2 r2
theorem QW.t {e : Expr} {f : Env → T Bool} (h : QW X tb W e f) : QT X tb W e f := by
  obtain ⟨t, h1, h2⟩ := h.ex
  exact ⟨t, h1.pt, h2⟩

/-! ### names, constants -/
def eVar (i : Nat) : Env → T D := fun env => match env[i]? with
  | some (.frz d) => .ret d
  | _ => .bad
def pVar (i : Nat) : Env → T D := fun env => match env[i]? with
  | some (.frz d) => .ret d
  | some (.own d) => .ret d
  | _ => .bad
def eC (d : D) : Env → T D := fun _ => .ret d
theorem qe_var (i : Nat) {x : Str} (hN : X.N[i]? = some x := by rfl) (hv : Vis X.env.scope x := by first | exact Or.inl rfl | exact Or.inr (Or.inl rfl) | exact Or.inr (Or.inr rfl)) (hd : (x == ("__debug__" : Str)) = false := by decide)
    (hcd : (x == ("__classdict__" : Str)) = false := by decide) : QE X tb W (.Name x pos) (eVar i) := by
  refine ⟨tVar i, pe_var hN hv hd hcd, fun g σ env H Q E hw => ?_⟩
  unfold eVar at hw
  split at hw
  · rename_i d h
    obtain ⟨v, e, r⟩ := E.slot i _ h
    exact ⟨v, e, hw v H E.refl r⟩
  · exact hw.elim
theorem qp_var (i : Nat) {x : Str} (hN : X.N[i]? = some x := by rfl) (hv : Vis X.env.scope x := by first | exact Or.inl rfl | exact Or.inr (Or.inl rfl) | exact Or.inr (Or.inr rfl)) (hd : (x == ("__debug__" : Str)) = false := by decide)
    (hcd : (x == ("__classdict__" : Str)) = false := by decide) : QP X tb W (.Name x pos) (pVar i) := by
  refine ⟨tVar i, pe_var hN hv hd hcd, fun g σ env H Q E hw => ?_⟩
  unfold pVar at hw
  split at hw
  · rename_i d h
    obtain ⟨v, e, r⟩ := E.slot i _ h
    exact ⟨v, e, hw v H E.refl (r.p E.cup)⟩
  · rename_i d h
    obtain ⟨a, e, r⟩ := E.slot i _ h
    refine ⟨.ref a, e, hw _ H E.refl ?_⟩
    have nc : ¬ g.C a := E.nc (.inl ⟨⟨d, h⟩, e⟩)
    cases d with
    | lst xs => obtain ⟨vs, e1, l, q⟩ := r; exact ⟨a, vs, rfl, nc, .inl e1, l, q⟩
    | dic xs => obtain ⟨vs, e1, l, q⟩ := r; exact ⟨a, vs, rfl, nc, .inl e1, l, q⟩
    | dit xs => obtain ⟨vs, e1, l, q⟩ := r; exact ⟨a, vs, rfl, nc, .inl e1, l, q⟩
    | _ => exact r.elim
  · exact hw.elim
theorem qe_c {e : Expr} {v : V} {d : D} (h : PE X e (tC v)) (r : ∀ g H, Rep (pgOf X tb) g H d v) : QE X tb W e (eC d) :=
  ⟨tC v, h, fun g σ env H Q E hw => hw v H E.refl (r _ _)⟩
theorem qe_int {i j} : QE X tb W (.Constant (.int i) j pos) (eC (.int i)) := qe_c pe_int fun _ _ => by simp [Rep]
theorem qe_bl {b j} : QE X tb W (.Constant (.bool b) j pos) (eC (.bl b)) := qe_c pe_bl fun _ _ => by simp [Rep]
theorem qe_non {j} : QE X tb W (.Constant .none j pos) (eC .non) := qe_c pe_non fun _ _ => by simp [Rep]
def okS (s : List Nat) : Bool := s.all (· < 0x110000) && decide (s.length ≤ 16777216)
theorem okS_iff {s : List Nat} (h : okS s = true) : (∀ c ∈ s, c < 0x110000) ∧ s.length ≤ sizeLine := by
  unfold okS at h
  simp only [Bool.and_eq_true, List.all_eq_true, decide_eq_true_eq] at h
  exact ⟨h.1, by rw [sizeLine_eq]; exact h.2⟩
theorem qe_str {x : Str} {j} (s : List Nat) (hx : (x.cps.toList == s && okS s) = true := by decide +kernel) : QE X tb W (.Constant (.str x) j pos) (eC (.str s)) := by
  simp only [Bool.and_eq_true, beq_iff_eq] at hx
  obtain ⟨h1, h2⟩ := hx
  refine qe_c pe_str fun _ _ => ?_
  simp only [Rep]
  refine ⟨?_, okS_iff h2⟩
  subst h1
  simp [sl]

/-! ### sequencing helper -/
theorem wpStep {p : Pg} {g : Gh} {σ : St} {H : Hp} {W : WX} {H1 : Hp} (s : Step p g.C H H1) : ∀ x, XP p g σ H W x → XP p g σ H1 W x := fun x h cls dx H' s' r => h cls dx H' (s.trans s') r

/-! ### operators by their rules -/
theorem Rd.step {p : Pg} {g : Gh} {σ : St} {env : Env} {H H' : Hp} (E : ER p g σ env H) (s : Step p g.C H H') {a : Addr} {u : HO} (nc : ¬ g.C a) (hu : ∀ ps, u ≠ .tbl ps) (r : Rd H a u) : Rd H' a u := by
  rcases r with r | ⟨o, r⟩
  · exact .inl (s.grow _ _ r nc hu)
  · exact .inr ⟨o, (E.mv s).frz _ _ _ r⟩
theorem RepP.step {p : Pg} {g : Gh} {σ : St} {env : Env} {H H' : Hp} {d : D} {v : V} (E : ER p g σ env H) (s : Step p g.C H H') (h : RepP p g.C H d v) : RepP p g.C H' d v := by
  cases d with
  | lst xs => obtain ⟨a, vs, e, nc, r, l, q⟩ := h; exact ⟨a, vs, e, nc, Rd.step E s nc (fun _ => by simp) r, l, q.mv (E.mv s)⟩
  | dic xs => obtain ⟨a, vs, e, nc, r, l, q⟩ := h; exact ⟨a, vs, e, nc, Rd.step E s nc (fun _ => by simp) r, l, RepK.mv (E.mv s) q⟩
  | dit xs => obtain ⟨a, vs, e, nc, r, l, q⟩ := h; exact ⟨a, vs, e, nc, Rd.step E s nc (fun _ => by simp) r, l, RepT.mv (E.mv s) q⟩
  | _ => exact Rep.mv (E.mv s) h
theorem RepPs.step {p : Pg} {g : Gh} {σ : St} {env : Env} {H H' : Hp} (E : ER p g σ env H) (s : Step p g.C H H') : ∀ {d : List D} {v : List V}, RepPs p g.C H d v → RepPs p g.C H' d v
  | [], _, h => h
  | d :: ds, vs, h => by
    obtain ⟨v, ws, e, r, q⟩ := h
    exact ⟨v, ws, e, r.step E s, RepPs.step E s q⟩
theorem wpDone {p : Pg} {g : Gh} {H H1 : Hp} {Q : VK} {d : D} (s : Step p g.C H H1) (q : ∀ v H', Step p g.C H H' → Rep p g.C H' d v → Q v H') : ∀ v H', Step p g.C H1 H' → Rep p g.C H' d v → Q v H' :=
  fun v H' s' r => q v H' (s.trans s') r
/-- what a rule by values answers, for data -/
def R2I (X : Cx) (tb : Tb) (r : R2) (F : D → D → Option D) : Prop := ∀ g σ env H (Q : VK) x y vx vy d, ER (pgOf X tb) g σ env H → RepP (pgOf X tb) g.C H x vx → RepP (pgOf X tb) g.C H y vy → F x y = some d →
  (∀ v H', Step (pgOf X tb) g.C H H' → Rep (pgOf X tb) g.C H' d v → Q v H') → r vx vy H Q
def e2 (F : D → D → Option D) (f1 f2 : Env → T D) : Env → T D := fun env => (f1 env).bind fun x => (f2 env).bind fun y => ofO (F x y)
theorem imp2 {r : R2} {F : D → D → Option D} {ta tb' : TE} {f1 f2 : Env → T D} (hr : R2I X tb r F) (h1 : ImpP (pgOf X tb) W ta f1) (h2 : ImpP (pgOf X tb) W tb' f2) : ImpE (pgOf X tb) W (tOp r ta tb') (e2 F f1 f2) := fun g σ env H Q E hw => by
  unfold e2 at hw
  rw [T.wp_bind] at hw
  refine h1 g σ env H _ E (T.wp_mono (fun x q vx H1 s1 r1 => ?_) (fun _ z => z) hw)
  rw [T.wp_bind] at q
  have E1 := E.step s1
  refine h2 g σ env H1 _ E1 (T.wp_mono (fun y q vy H2 s2 r2 => ?_) (wpStep s1) q)
  have E2 := E1.step s2
  cases hF : F x y with
  | none => rw [hF] at q; exact q.elim
  | some d =>
    rw [hF] at q
    exact hr g σ env H2 Q x y vx vy d E2 (r1.step E1 s2) r2 hF (wpDone (s1.trans s2) q)
/-- .. where the answer may be new -/
def R2L (X : Cx) (tb : Tb) (r : R2) (F : D → D → Option D) : Prop := ∀ g σ env H (Q : VK) x y vx vy d, ER (pgOf X tb) g σ env H → RepP (pgOf X tb) g.C H x vx → RepP (pgOf X tb) g.C H y vy → F x y = some d →
  (∀ v H', Step (pgOf X tb) g.C H H' → Rep (pgOf X tb) g.C H' d v → Q v H') → r vx vy H (fun v H' => LQ (Q v) H')
theorem imp2L {r : R2} {F : D → D → Option D} {ta tb' : TE} {f1 f2 : Env → T D} (hr : R2L X tb r F) (h1 : ImpP (pgOf X tb) W ta f1) (h2 : ImpP (pgOf X tb) W tb' f2) : ImpE (pgOf X tb) W (fun σ H Q => tOp r ta tb' σ H fun v H' => LQ (Q v) H') (e2 F f1 f2) := fun g σ env H Q E hw => by
  unfold e2 at hw
  rw [T.wp_bind] at hw
  refine h1 g σ env H _ E (T.wp_mono (fun x q vx H1 s1 r1 => ?_) (fun _ z => z) hw)
  rw [T.wp_bind] at q
  have E1 := E.step s1
  refine h2 g σ env H1 _ E1 (T.wp_mono (fun y q vy H2 s2 r2 => ?_) (wpStep s1) q)
  have E2 := E1.step s2
  cases hF : F x y with
  | none => rw [hF] at q; exact q.elim
  | some d =>
    rw [hF] at q
    exact hr g σ env H2 Q x y vx vy d E2 (r1.step E1 s2) r2 hF (wpDone (s1.trans s2) q)
theorem qe_binL {op : Operator} {r : R2} {F : D → D → Option D} {a b : Expr} {f1 f2 : Env → T D} (ho : OpR X (binaryOp op) r) (hr : R2L X tb r F) (h1 : QP X tb W a f1) (h2 : QP X tb W b f2) : QE X tb W (.BinOp a op b pos) (e2 F f1 f2) := by
  obtain ⟨t1, p1, i1⟩ := h1.ex
  obtain ⟨t2, p2, i2⟩ := h2.ex
  exact ⟨_, pe_lq (pe_op ho p1 p2), imp2L hr i1 i2⟩
theorem qe_bin {op : Operator} {r : R2} {F : D → D → Option D} {a b : Expr} {f1 f2 : Env → T D} (ho : OpR X (binaryOp op) r) (hr : R2I X tb r F) (h1 : QP X tb W a f1) (h2 : QP X tb W b f2) : QE X tb W (.BinOp a op b pos) (e2 F f1 f2) := by
  obtain ⟨t1, p1, i1⟩ := h1.ex
  obtain ⟨t2, p2, i2⟩ := h2.ex
  exact ⟨_, pe_op ho p1 p2, imp2 hr i1 i2⟩
theorem qe_cmp {op : CmpOp} {r : R2} {F : D → D → Option D} {a b : Expr} {f1 f2 : Env → T D} (ho : OpR X (compareOp op) r) (hr : R2I X tb r F) (h1 : QP X tb W a f1) (h2 : QP X tb W b f2) (hm : behindInMarks op b = false := by first | exact nomark _ | rfl) : QE X tb W (.Compare a [op] [b] pos) (e2 F f1 f2) := by
  obtain ⟨t1, p1, i1⟩ := h1.ex
  obtain ⟨t2, p2, i2⟩ := h2.ex
  exact ⟨_, pe_cmpR ho p1 p2 hm, imp2 hr i1 i2⟩
/-- alternatives -/
theorem R2I.or {r r' : R2} {F G : D → D → Option D} (h : R2I X tb r F) (h' : R2I X tb r' G) (sel : D → D → Bool) : R2I X tb (fun x y H Q => r x y H Q ∨ r' x y H Q) (fun x y => if sel x y then F x y else G x y) := fun g σ env H Q x y vx vy d E rx ry e q => by
  dsimp only at e
  split at e
  · exact .inl (h g σ env H Q x y vx vy d E rx ry e q)
  · exact .inr (h' g σ env H Q x y vx vy d E rx ry e q)

/-! ### ints -/
def iI (C : Int → Int → Bool) (k : Int → Int → D) : D → D → Option D
  | .int i, .int j => if C i j then some (k i j) else none
  | _, _ => none
theorem r2_int {C : Int → Int → Prop} {k : Int → Int → V} {Cb : Int → Int → Bool} {kd : Int → Int → D} (hC : ∀ i j, Cb i j = true → C i j) (hk : ∀ p c H i j, Rep p c H (kd i j) (k i j)) : R2I X tb (rI C k) (iI Cb kd) := fun g σ env H Q x y vx vy d E rx ry e q => by
  unfold iI at e
  split at e
  · rename_i i j
    split at e
    · rename_i hc
      cases e
      simp only [RepP, Rep] at rx ry
      exact ⟨i, j, rx, ry, hC i j hc, q _ H E.refl (hk _ _ _ i j)⟩
    · cases e
  · cases e
theorem r2_int0 {k : Int → Int → V} {kd : Int → Int → D} (hk : ∀ p c H i j, Rep p c H (kd i j) (k i j)) : R2I X tb (rI0 k) (iI (fun _ _ => true) kd) := fun g σ env H Q x y vx vy d E rx ry e q => by
  unfold iI at e
  split at e
  · rename_i i j
    rw [if_pos rfl] at e
    cases e
    simp only [RepP, Rep] at rx ry
    exact ⟨i, j, rx, ry, q _ H E.refl (hk _ _ _ i j)⟩
  · cases e
/-! ### texts -/
def sS (k : List Nat → List Nat → Option D) : D → D → Option D
  | .str i, .str j => k i j
  | _, _ => none
end
end MM

namespace MM
open PySem PySem.Spec L2

/-! ### data compared -/
mutual
def D.toPy : D → PyData
  | .non => .none
  | .bl b => .bool b
  | .int i => .int i
  | .str s => .str (sl s)
  | .lst xs => .list (toPyL xs)
  | .tup xs => .tuple (toPyL xs)
  | .dic _ => .none
  | .dit _ => .none
  | .cup => .none
  | .fn _ => .none
  | .ty _ => .none
def toPyL : List D → List PyData
  | [] => []
  | d :: ds => d.toPy :: toPyL ds
end
mutual
/-- whether data that == reads, of depth at most n -/
def D.okN : Nat → D → Bool
  | _, .non => true
  | _, .bl _ => true
  | _, .int _ => true
  | _, .str _ => true
  | 0, .lst _ => false
  | 0, .tup _ => false
  | n + 1, .lst xs => okNL n xs
  | n + 1, .tup xs => okNL n xs
  | _, .dic _ => false
  | _, .dit _ => false
  | _, .cup => false
  | _, .fn _ => false
  | _, .ty _ => false
def okNL : Nat → List D → Bool
  | _, [] => true
  | n, d :: ds => d.okN n && okNL n ds
end
theorem eqNats_eq : ∀ {a b : List Nat}, eqNats a b = decide (a = b)
  | [], [] => by simp [eqNats]
  | [], _ :: _ => by simp [eqNats]
  | _ :: _, [] => by simp [eqNats]
  | a :: as, b :: bs => by
    have h : Nat.beq a b = decide (a = b) := by
      by_cases e : a = b
      · subst e; simp [Nat.beq_refl]
      · rw [decide_eq_false e]
        cases q : Nat.beq a b with
        | false => rfl
        | true => exact absurd (Nat.eq_of_beq_eq_true q) e
    simp only [eqNats, h, eqNats_eq, List.cons.injEq, Bool.decide_and]
mutual
def D.eqv : D → D → Bool
  | .non, .non => true
  | .bl a, .bl b => a == b
  | .bl a, .int j => (if a then 1 else 0) == j
  | .int i, .bl b => i == (if b then 1 else 0)
  | .int i, .int j => decide (i = j)
  | .str x, .str y => eqNats x y
  | .lst xs, .lst ys => eqvL xs ys
  | .tup xs, .tup ys => eqvL xs ys
  | _, _ => false
def eqvL : List D → List D → Bool
  | [], [] => true
  | x :: xs, y :: ys => x.eqv y && eqvL xs ys
  | _, _ => false
end
theorem sl_inj {x y : List Nat} : sl x = sl y ↔ x = y := by
  constructor
  · intro h
    have := congrArg (fun z => z.cps.toList) h
    simpa [sl] using this
  · intro h; rw [h]
theorem strBeq {x y : List Nat} : ((sl x) == (sl y)) = eqNats x y := by
  rw [eqNats_eq]
  by_cases e : x = y
  · subst e; simp
  · rw [decide_eq_false e]
    exact beq_eq_false_iff_ne.mpr fun h => e (sl_inj.mp h)
mutual
theorem D.eqv_py : ∀ (n m : Nat) (x y : D), x.okN n = true → y.okN m = true → PyData.eqv x.toPy y.toPy = x.eqv y
  | n, m, x, y, hx, hy => by
    cases x with
    | lst xs =>
      cases n with
      | zero => simp [D.okN] at hx
      | succ n =>
        cases y with
        | lst ys =>
          cases m with
          | zero => simp [D.okN] at hy
          | succ m =>
            simp only [D.okN] at hx hy
            simp only [D.toPy, PyData.eqv, D.eqv]
            exact eqvL_py n m xs ys hx hy
        | tup ys => cases m <;> simp [D.toPy, PyData.eqv, D.eqv, D.okN] at *
        | _ => simp [D.toPy, PyData.eqv, D.eqv, D.okN] at *
    | tup xs =>
      cases n with
      | zero => simp [D.okN] at hx
      | succ n =>
        cases y with
        | tup ys =>
          cases m with
          | zero => simp [D.okN] at hy
          | succ m =>
            simp only [D.okN] at hx hy
            simp only [D.toPy, PyData.eqv, D.eqv]
            exact eqvL_py n m xs ys hx hy
        | lst ys => cases m <;> simp [D.toPy, PyData.eqv, D.eqv, D.okN] at *
        | _ => simp [D.toPy, PyData.eqv, D.eqv, D.okN] at *
    | int i => cases y <;> simp [D.toPy, PyData.eqv, D.eqv, D.okN, Bool.beq_eq_decide_eq] at *
    | str i => cases y <;> simp [D.toPy, PyData.eqv, D.eqv, D.okN, strBeq] at *
    | non => cases y <;> simp [D.toPy, PyData.eqv, D.eqv, D.okN] at *
    | bl b => cases y <;> simp [D.toPy, PyData.eqv, D.eqv, D.okN] at *
    | _ => simp [D.okN] at hx
theorem eqvL_py : ∀ (n m : Nat) (x y : List D), okNL n x = true → okNL m y = true → PyData.eqvAll (toPyL x) (toPyL y) = eqvL x y
  | n, m, [], [], _, _ => by simp [toPyL, PyData.eqvAll, eqvL]
  | n, m, [], _ :: _, _, _ => by simp [toPyL, PyData.eqvAll, eqvL]
  | n, m, _ :: _, [], _, _ => by simp [toPyL, PyData.eqvAll, eqvL]
  | n, m, x :: xs, y :: ys, hx, hy => by
    simp only [okNL, Bool.and_eq_true] at hx hy
    simp only [toPyL, PyData.eqvAll, eqvL]
    rw [D.eqv_py n m x y hx.1 hy.1, eqvL_py n m xs ys hx.2 hy.2]
end
section
variable {p : Pg} {C : Addr → Prop} {H : Hp}
mutual
theorem Rep.dp : ∀ (n : Nat) (d : D) (v : V), d.okN n = true → Rep p C H d v → Dp p.K H v d.toPy ∧ d.toPy.canLay0 = true ∧ d.toPy.depth ≤ n
  | n, d, v, hd, h => by
    cases d with
    | non => simp only [Rep] at h; subst h; exact ⟨.non, rfl, Nat.zero_le _⟩
    | bl b => simp only [Rep] at h; subst h; exact ⟨.bl b, rfl, Nat.zero_le _⟩
    | int i => simp only [Rep] at h; subst h; exact ⟨.int i, rfl, Nat.zero_le _⟩
    | str s =>
      simp only [Rep] at h
      obtain ⟨rfl, h2, _⟩ := h
      refine ⟨.str _, ?_, Nat.zero_le _⟩
      simp only [D.toPy, PyData.canLay0, PyData.strOk, sl]
      simpa using h2
    | lst xs =>
      cases n with
      | zero => simp [D.okN] at hd
      | succ n =>
        simp only [D.okN] at hd
        simp only [Rep] at h
        obtain ⟨a, vs, rfl, e, _, r⟩ := h
        obtain ⟨q1, q2, q3⟩ := RepL.dp n xs vs hd r
        exact ⟨.lst (.inl e.rd) q1, by simpa [D.toPy, PyData.canLay0] using q2, by simp only [D.toPy, PyData.depth]; omega⟩
    | tup xs =>
      cases n with
      | zero => simp [D.okN] at hd
      | succ n =>
        simp only [D.okN] at hd
        simp only [Rep] at h
        obtain ⟨a, vs, rfl, e, _, r⟩ := h
        obtain ⟨q1, q2, q3⟩ := RepL.dp n xs vs hd r
        exact ⟨.tup e q1, by simpa [D.toPy, PyData.canLay0] using q2, by simp only [D.toPy, PyData.depth]; omega⟩
    | _ => simp [D.okN] at hd
theorem RepL.dp : ∀ (n : Nat) (ds : List D) (vs : List V), okNL n ds = true → RepL p C H ds vs → DpAll p.K H vs (toPyL ds) ∧ PyData.canLayAll0 (toPyL ds) = true ∧ PyData.depthAll (toPyL ds) ≤ n
  | n, [], vs, hd, h => by
    simp only [RepL] at h
    subst h
    exact ⟨.nil, rfl, Nat.zero_le _⟩
  | n, d :: ds, vs, hd, h => by
    simp only [RepL] at h
    simp only [okNL, Bool.and_eq_true] at hd
    obtain ⟨v, ws, rfl, r, q⟩ := h
    obtain ⟨a1, a2, a3⟩ := Rep.dp n d v hd.1 r
    obtain ⟨b1, b2, b3⟩ := RepL.dp n ds ws hd.2 q
    refine ⟨.cons a1 b1, by simp [toPyL, PyData.canLayAll0, a2, b2], ?_⟩
    simp only [toPyL, PyData.depthAll]
    omega
end
theorem RepP.dp {n : Nat} {d : D} {v : V} (hd : d.okN n = true) (h : RepP p C H d v) : Dp p.K H v d.toPy ∧ d.toPy.canLay0 = true ∧ d.toPy.depth ≤ n := by
  cases d with
  | lst xs =>
    cases n with
    | zero => simp [D.okN] at hd
    | succ n =>
      simp only [D.okN] at hd
      obtain ⟨a, vs, rfl, _, e, _, r⟩ := h
      obtain ⟨q1, q2, q3⟩ := RepL.dp n xs vs hd r
      exact ⟨.lst (.inl e) q1, by simpa [D.toPy, PyData.canLay0] using q2, by simp only [D.toPy, PyData.depth]; omega⟩
  | dic xs => simp [D.okN] at hd
  | dit xs => simp [D.okN] at hd
  | _ => exact Rep.dp (C := C) n _ v hd h
theorem RepP.shaped {d : D} {v : V} (hd : d.okN 64 = true) (h : RepP p C H d v) : SeqAt.shaped d.toPy = true := by
  obtain ⟨_, q2, q3⟩ := h.dp hd
  simp [SeqAt.shaped, q2, q3]
end
section
variable {X : Cx} {tb : Tb} {W : WX} {pos : Pos}
def eqD (x y : D) : Option D := if x.okN 64 && y.okN 64 then some (.bl (x.eqv y)) else none
def neD (x y : D) : Option D := if x.okN 64 && y.okN 64 then some (.bl (!x.eqv y)) else none
theorem r2_eq : R2I X tb (rEqD X.K) eqD := fun g σ env H Q x y vx vy d E rx ry e q => by
  unfold eqD at e
  split at e
  · rename_i h
    simp only [Bool.and_eq_true] at h
    cases e
    refine ⟨_, _, (rx.dp h.1).1, (ry.dp h.2).1, rx.shaped h.1, ry.shaped h.2, ?_⟩
    rw [D.eqv_py 64 64 x y h.1 h.2]
    exact q _ H E.refl (by simp [Rep])
  · cases e
theorem r2_ne : R2I X tb (rNeD X.K) neD := fun g σ env H Q x y vx vy d E rx ry e q => by
  unfold neD at e
  split at e
  · rename_i h
    simp only [Bool.and_eq_true] at h
    cases e
    refine ⟨_, _, (rx.dp h.1).1, (ry.dp h.2).1, rx.shaped h.1, ry.shaped h.2, ?_⟩
    rw [D.eqv_py 64 64 x y h.1 h.2]
    exact q _ H E.refl (by simp [Rep])
  · cases e
theorem qe_eq {a b : Expr} {f1 f2 : Env → T D} (hu : X.A.units + 64 < cLine) (h1 : QP X tb W a f1) (h2 : QP X tb W b f2) : QE X tb W (.Compare a [.Eq] [b] pos) (e2 eqD f1 f2) := qe_cmp (op_eqD hu) r2_eq h1 h2
theorem qe_ne {a b : Expr} {f1 f2 : Env → T D} (hu : X.A.units + 64 < cLine) (h1 : QP X tb W a f1) (h2 : QP X tb W b f2) : QE X tb W (.Compare a [.NotEq] [b] pos) (e2 neD f1 f2) := qe_cmp (op_neD hu) r2_ne h1 h2

/-! ### arithmetic -/
def small64 (i j : Int) : Bool := (decide (-(2 ^ 64) < i) && decide (i < 2 ^ 64)) || (decide (-(2 ^ 64) < j) && decide (j < 2 ^ 64))
theorem repI {p : Pg} {C : Addr → Prop} {H : Hp} {i : Int} : Rep p C H (.int i) (.int i) := by simp [Rep]
theorem repB {p : Pg} {C : Addr → Prop} {H : Hp} {i : Bool} : Rep p C H (.bl i) (.bl i) := by simp [Rep]
def subD := iI (fun _ _ => true) fun i j => .int (i - j)
def fdivD := iI (fun i j => decide (0 < j) && decide (j < 1073741824)) fun i j => .int (i / j)
def modD := iI (fun i j => decide (0 < j)) fun i j => .int (i % j)
def powD := iI (fun i j => decide (0 ≤ j) && decide (j ≤ 1000000) && decide (i.natAbs < 2 ^ 64)) fun i j => .int (i ^ j.toNat)
def ltI := iI (fun _ _ => true) fun i j => .bl (decide (i < j))
def leI := iI (fun _ _ => true) fun i j => .bl (decide (i ≤ j))
def gtI := iI (fun _ _ => true) fun i j => .bl (decide (j < i))
def geI := iI (fun _ _ => true) fun i j => .bl (decide (j ≤ i))
section
variable {a b : Expr} {f1 f2 : Env → T D}
theorem qe_sub (h1 : QP X tb W a f1) (h2 : QP X tb W b f2) : QE X tb W (.BinOp a .Sub b pos) (e2 subD f1 f2) := qe_bin op_sub (r2_int0 fun _ _ _ _ _ => repI) h1 h2
theorem qe_fdiv (h1 : QP X tb W a f1) (h2 : QP X tb W b f2) : QE X tb W (.BinOp a .FloorDiv b pos) (e2 fdivD f1 f2) := qe_bin op_fdiv (r2_int (fun i j h => by simpa [CDiv] using h) fun _ _ _ _ _ => repI) h1 h2
theorem qe_mod (h1 : QP X tb W a f1) (h2 : QP X tb W b f2) : QE X tb W (.BinOp a .Mod b pos) (e2 modD f1 f2) := qe_bin op_mod (r2_int (fun i j h => by simpa using h) fun _ _ _ _ _ => repI) h1 h2
theorem qe_pow (h1 : QP X tb W a f1) (h2 : QP X tb W b f2) : QE X tb W (.BinOp a .Pow b pos) (e2 powD f1 f2) := qe_bin op_pow (r2_int (fun i j h => by simpa [CPow, and_assoc] using h) fun _ _ _ _ _ => repI) h1 h2
theorem qe_lt (h1 : QP X tb W a f1) (h2 : QP X tb W b f2) : QE X tb W (.Compare a [.Lt] [b] pos) (e2 ltI f1 f2) := qe_cmp op_lt (r2_int0 fun _ _ _ _ _ => repB) h1 h2
theorem qe_le (h1 : QP X tb W a f1) (h2 : QP X tb W b f2) : QE X tb W (.Compare a [.LtE] [b] pos) (e2 leI f1 f2) := qe_cmp op_le (r2_int0 fun _ _ _ _ _ => repB) h1 h2
theorem qe_gt (h1 : QP X tb W a f1) (h2 : QP X tb W b f2) : QE X tb W (.Compare a [.Gt] [b] pos) (e2 gtI f1 f2) := qe_cmp op_gt (r2_int0 fun _ _ _ _ _ => repB) h1 h2
theorem qe_ge (h1 : QP X tb W a f1) (h2 : QP X tb W b f2) : QE X tb W (.Compare a [.GtE] [b] pos) (e2 geI f1 f2) := qe_cmp op_ge (r2_int0 fun _ _ _ _ _ => repB) h1 h2
end
theorem repStr {p : Pg} {C : Addr → Prop} {H : Hp} {s : List Nat} (h1 : ∀ c ∈ s, c < 0x110000) (h2 : s.length ≤ sizeLine) : Rep p C H (.str s) (.str (sl s)) := by
  simp only [Rep]
  exact ⟨trivial, h1, h2⟩
theorem sl_len {s : List Nat} : (sl s).length = s.length := by simp [sl, Str.length]
theorem sl_app {s t : List Nat} : sl s ++ sl t = sl (s ++ t) := by
  show Str.append (sl s) (sl t) = sl (s ++ t)
  simp [sl, Str.append]
theorem size16 : (sizeLine : Nat) = 16777216 := by rw [sizeLine_eq]
/-! + -/
def addD : D → D → Option D
  | .int i, .int j => some (.int (i + j))
  | .str s, .str t => if s.length + t.length ≤ 16777216 then some (.str (s ++ t)) else none
  | .lst s, .lst t => if s.length + t.length ≤ 16777216 then some (.lst (s ++ t)) else none
  | .tup s, .tup t => if s.length + t.length ≤ 16777216 then some (.tup (s ++ t)) else none
  | _, _ => none
def rAddS : R2 := fun x y H Q => ∃ i j, x = .str i ∧ y = .str j ∧ i.length + j.length ≤ sizeLine ∧ Q (.str (i ++ j)) H
/-- two lists that may be read are joined -/
def rJoin : R2 := fun x y H Q => ∃ l b xs zs, x = .ref l ∧ y = .ref b ∧ Rd H l (.lst xs) ∧ Rd H b (.lst zs) ∧ xs.length + zs.length ≤ 16777216 ∧ ∀ p, H p = none → Q (.ref p) (upd H p (.lst (xs ++ zs)))
theorem op_join : OpR X (binaryOp .Add) rJoin := fun pins s σ H x y v u Q I rx ry ⟨l, b, xs, zs, ex, ey, g1, g2, hz, q⟩ => by
  subst ex ey
  cases rx; cases ry
  obtain ⟨_, c1, _, w1, o1⟩ := g1.ok I.hok
  obtain ⟨_, c2, _, w2, o2⟩ := g2.ok I.hok
  have n1 := w1.length
  have n2 := w2.length
  have hz' : (xs ++ zs).length ≤ sizeLine := by rw [List.length_append, sizeLine_eq]; exact hz
  refine PySem.P.add_list o1 o2 ?_ ?_
  · rw [show c1.toArray ++ c2.toArray = (c1 ++ c2).toArray by simp]
    exact ⟨.ref _, _, I.lnew (t' := s.toks) (w1.append w2) hz', rfl, q _ I.fresh⟩
  · rw [List.length_append] at hz'
    simp only [List.size_toArray]
    omega
def rAddD (K : PySem.W.Frag) : R2 := fun x y H Q => rI0 (fun i j => .int (i + j)) x y H Q ∨ rAddS x y H Q ∨ rJoin x y H Q ∨ rCatA K x y H Q
theorem op_addD : OpR X (binaryOp .Add) (rAddD X.K) := OpR.or op_add (OpR.or op_add_str (OpR.or op_join op_catA))
theorem r2_add : R2L X tb (rAddD X.K) addD := fun g σ env H Q x y vx vy d E rx ry e q => by
  unfold addD at e
  split at e
  · cases e
    simp only [RepP, Rep] at rx ry
    exact .inl ⟨_, _, rx, ry, .done (q _ H E.refl repI)⟩
  · rename_i s t
    split at e
    · rename_i hl
      cases e
      simp only [RepP, Rep] at rx ry
      refine .inr (.inl ⟨_, _, rx.1, ry.1, by rw [sl_len, sl_len, size16]; exact hl, .done (q _ H E.refl ?_)⟩)
      simp only [Rep]
      refine ⟨by rw [sl_app], fun c hc => ?_, by rw [List.length_append, size16]; exact hl⟩
      rcases List.mem_append.mp hc with z | z
      · exact rx.2.1 c z
      · exact ry.2.1 c z
    · cases e
  · rename_i s t
    split at e
    · rename_i hl
      cases e
      obtain ⟨a, vs, rfl, na, ea, la, ra⟩ := rx
      obtain ⟨b, ws, rfl, nb, eb, lb, rb⟩ := ry
      have hz : (s ++ t).length ≤ sizeLine := by rw [List.length_append, size16]; exact hl
      refine .inr (.inr (.inl ⟨a, b, vs, ws, rfl, rfl, ea, eb, by rw [ra.length, rb.length]; exact hl, fun p hp => ?_⟩))
      exact E.newL hp (d := .lst (s ++ t)) ⟨_, upd_same, hz, (ra.app rb).mv (E.mv (E.alloc hp))⟩ (q _)
    · cases e
  · rename_i s t
    split at e
    · rename_i hl
      cases e
      simp only [RepP, Rep] at rx ry
      obtain ⟨a, vs, rfl, ea, la, ra⟩ := rx
      obtain ⟨b, ws, rfl, eb, lb, rb⟩ := ry
      have hz : (s ++ t).length ≤ sizeLine := by rw [List.length_append, size16]; exact hl
      refine .inr (.inr (.inr ⟨a, b, vs, ws, rfl, rfl, ea, eb, by rw [ra.length, rb.length, size16]; exact hl, fun z => ?_, fun _ z => ?_, fun _ _ p hp => ?_⟩))
      · subst z
        have : s = [] := by
          cases s with
          | nil => rfl
          | cons => simp [RepL] at ra
        subst this
        refine .done (q _ H E.refl ?_)
        simp only [Rep, List.nil_append]
        exact ⟨b, ws, rfl, eb, lb, rb⟩
      · subst z
        have : t = [] := by
          cases t with
          | nil => rfl
          | cons => simp [RepL] at rb
        subst this
        refine .done (q _ H E.refl ?_)
        simp only [Rep, List.append_nil]
        exact ⟨a, vs, rfl, ea, la, ra⟩
      · have st := E.alloc (o := .tup (vs ++ ws)) hp
        refine .done (q _ _ st ?_)
        simp only [Rep]
        exact ⟨p, _, rfl, .of upd_same, hz, (ra.app rb).mv (E.mv st)⟩
    · cases e
  · cases e
theorem qe_add {a b : Expr} {f1 f2 : Env → T D} (h1 : QP X tb W a f1) (h2 : QP X tb W b f2) : QE X tb W (.BinOp a .Add b pos) (e2 addD f1 f2) := qe_binL op_addD r2_add h1 h2
/-! * -/
def repS {α : Type} : Nat → List α → List α
  | 0, _ => []
  | n + 1, s => s ++ repS n s
theorem repS_eq {α : Type} (s : List α) : ∀ n, repS n s = (List.replicate n s).flatten
  | 0 => by simp [repS]
  | n + 1 => by simp [repS, repS_eq s n, List.replicate_succ]
theorem repS_len {α : Type} (s : List α) : ∀ n, (repS n s).length = s.length * n
  | 0 => by simp [repS]
  | n + 1 => by simp [repS, repS_len s n, Nat.mul_succ, Nat.add_comm]
theorem repS_mem {α : Type} {s : List α} {x : α} : ∀ {n}, x ∈ repS n s → x ∈ s
  | 0, h => by simp [repS] at h
  | n + 1, h => by
    rcases List.mem_append.mp h with z | z
    · exact z
    · exact repS_mem z
theorem RepL.rep {p : Pg} {C : Addr → Prop} {H : Hp} {ds : List D} {vs : List V} (h : RepL p C H ds vs) : ∀ n, RepL p C H (repS n ds) (repS n vs)
  | 0 => .nil
  | n + 1 => h.app (RepL.rep h n)
def mulD : D → D → Option D
  | .int i, .int j => if small64 i j then some (.int (i * j)) else none
  | .str s, .int j => if decide (0 ≤ j) && decide (s.length * j.toNat ≤ 16777216) && decide (j < 16777217) then some (.str (repS j.toNat s)) else none
  | .tup s, .int j => if decide (2 ≤ j) && decide (j ≤ 1000) && decide (s.length ≤ 1000) && !s.isEmpty then some (.tup (repS j.toNat s)) else none
  | _, _ => none
def rMulS : R2 := fun x y H Q => ∃ i j, x = .str i ∧ y = .int j ∧ MulOk i j ∧ Q (.str (Txt.mul i j)) H
theorem op_mulS : OpR X (binaryOp .Mult) rMulS := by
  intro pins s σ H x y v u Q I rx ry h
  obtain ⟨i, j, rfl, rfl, ok, q⟩ := h
  obtain ⟨t, rfl⟩ := rx
  obtain ⟨t', rfl⟩ := ry
  exact PySem.SB.mul ok fun t' k => ⟨.str _, H, I.tok _, ⟨_, rfl⟩, q⟩
def rMulD (K : PySem.W.Frag) : R2 := fun x y H Q => rI CMul (fun i j => .int (i * j)) x y H Q ∨ rMulS x y H Q ∨ rRep x y H Q ∨ rRepT K x y H Q
theorem op_mulD : OpR X (binaryOp .Mult) (rMulD X.K) := OpR.or op_mul (OpR.or op_mulS (OpR.or op_rep op_repT))
theorem foldl_app (c : Array Nat) : ∀ (n : Nat) (acc : Array Nat), (List.replicate n c).foldl (· ++ ·) acc = acc ++ (repS n c.toList).toArray
  | 0, acc => by simp [repS]
  | n + 1, acc => by
    rw [List.replicate_succ, List.foldl_cons, foldl_app c n (acc ++ c)]
    apply Array.ext'
    simp [repS]
theorem mul_sl {s : List Nat} {j : Int} (h0 : 0 ≤ j) : Txt.mul (sl s) j = sl (repS j.toNat s) := by
  unfold Txt.mul
  split
  · have : j.toNat = 0 := by omega
    rw [this]; rfl
  · split
    · rename_i h1 h2
      simp only [Bool.or_eq_true, beq_iff_eq] at h2
      rcases h2 with h2 | h2
      · subst h2; simp [repS]
      · have : s = [] := by rw [sl_len] at h2; exact List.length_eq_zero_iff.mp h2
        subst this
        have : ∀ n, repS n ([] : List Nat) = [] := fun n => by induction n with
          | zero => rfl
          | succ n ih => simp [repS, ih]
        rw [this]
    · rw [foldl_app]
      simp [sl]
theorem r2_mul : R2L X tb (rMulD X.K) mulD := fun g σ env H Q x y vx vy d E rx ry e q => by
  unfold mulD at e
  split at e
  · split at e
    · rename_i h
      cases e
      simp only [RepP, Rep] at rx ry
      refine .inl ⟨_, _, rx, ry, ?_, .done (q _ H E.refl repI)⟩
      simpa [small64, CMul] using h
    · cases e
  · rename_i s j
    split at e
    · rename_i h
      simp only [Bool.and_eq_true, decide_eq_true_eq] at h
      obtain ⟨⟨h0, h1⟩, h2⟩ := h
      cases e
      simp only [RepP, Rep] at rx ry
      refine .inr (.inl ⟨_, _, rx.1, ry, ?_, .done (q _ H E.refl ?_)⟩)
      · refine ⟨by simp only [Bool.or_eq_false_iff, decide_eq_false_iff_not]; omega, fun hj hn => ?_, fun hj hn => ?_⟩
        · rw [sl_len]
          intro hgt
          have hj1 : 0 < j := by omega
          have hk : ((s.length * j.toNat : Nat) : Int) ≤ 16777216 := by omega
          have e1 : ((s.length * j.toNat : Nat) : Int) = (s.length : Int) * j := by
            rw [Int.natCast_mul, Int.toNat_of_nonneg h0]
          rw [e1] at hk
          have h3 : (2 ^ 63 - 1 : Int) < (s.length : Int) * j := Int.lt_mul_of_ediv_lt hj1 hgt
          omega
        · rw [sl_len]
          unfold Builtin.Str.tooLong
          simp only [decide_eq_false_iff_not]
          rw [size16]
          omega
      · rw [mul_sl h0]
        exact repStr (fun c hc => rx.2.1 c (repS_mem hc)) (by rw [repS_len, size16]; exact h1)
    · cases e
  · rename_i s j
    split at e
    · rename_i h
      simp only [Bool.and_eq_true, decide_eq_true_eq, Bool.not_eq_true'] at h
      obtain ⟨⟨⟨h0, h1⟩, h2⟩, h3⟩ := h
      cases e
      simp only [RepP, Rep] at rx ry
      obtain ⟨a, vs, rfl, ea, la, ra⟩ := rx
      have hz : (repS j.toNat s).length ≤ sizeLine := by
        rw [repS_len, size16]
        have : s.length * j.toNat ≤ 1000 * 1000 := Nat.mul_le_mul h2 (by omega)
        omega
      have hne : vs ≠ [] := fun z => by
        subst z
        have := ra.length
        cases s with
        | nil => simp at h3
        | cons => simp at this
      refine .inr (.inr (.inr ⟨a, j, vs, rfl, ry, ea, hne, h0, h1, by rw [ra.length]; exact h2, fun p hp => ?_⟩))
      rw [← repS_eq]
      have st := E.alloc (o := .tup (repS j.toNat vs)) hp
      refine .done (q _ _ st ?_)
      simp only [Rep]
      refine ⟨p, _, rfl, .of upd_same, hz, ?_⟩
      exact (ra.rep _).mv (E.mv st)
    · cases e
  · cases e
theorem qe_mul {a b : Expr} {f1 f2 : Env → T D} (h1 : QP X tb W a f1) (h2 : QP X tb W b f2) : QE X tb W (.BinOp a .Mult b pos) (e2 mulD f1 f2) := qe_binL op_mulD r2_mul h1 h2
/-! is None -/
def isND : D → D → Option D
  | .cup, .non => none
  | .non, .non => some (.bl true)
  | _, .non => some (.bl false)
  | _, _ => none
def isNND (x y : D) : Option D := match isND x y with
  | some (.bl b) => some (.bl (!b))
  | _ => none
theorem RepP.ne_non {p : Pg} {C : Addr → Prop} {H : Hp} {d : D} {v : V} (h : RepP p C H d v) (hd : d ≠ .non) : v ≠ .non := by
  cases d with
  | non => exact absurd rfl hd
  | lst xs => obtain ⟨a, vs, rfl, _⟩ := h; simp
  | dic xs => obtain ⟨a, vs, rfl, _⟩ := h; simp
  | dit xs => obtain ⟨a, vs, rfl, _⟩ := h; simp
  | tup xs => simp only [RepP, Rep] at h; obtain ⟨a, vs, rfl, _⟩ := h; simp
  | cup => simp only [RepP, Rep] at h; obtain ⟨a, rfl, _⟩ := h; simp
  | fn x => simp only [RepP, Rep] at h; obtain ⟨a, rfl, _⟩ := h; simp
  | str x => simp only [RepP, Rep] at h; obtain ⟨rfl, _⟩ := h; simp
  | _ => simp only [RepP, Rep] at h; subst h; simp
theorem r2_isN : R2I X tb (fun x y H Q => y = .non ∧ Q (.bl (decide (x = .non))) H) isND := fun g σ env H Q x y vx vy d E rx ry e q => by
  cases y with
  | non =>
    simp only [RepP, Rep] at ry
    refine ⟨ry, ?_⟩
    by_cases hx : x = .non
    · subst hx
      simp only [RepP, Rep] at rx
      subst rx
      cases e
      exact q _ H E.refl (by simp [Rep])
    · have e' : d = .bl false := by
        cases x <;> simp [isND] at e hx ⊢ <;> exact e.symm
      subst e'
      rw [decide_eq_false (rx.ne_non hx)]
      exact q _ H E.refl repB
  | _ => cases x <;> cases e
theorem r2_isNN : R2I X tb (fun x y H Q => y = .non ∧ Q (.bl (!decide (x = .non))) H) isNND := fun g σ env H Q x y vx vy d E rx ry e q => by
  unfold isNND at e
  cases h : isND x y with
  | none => rw [h] at e; cases e
  | some z =>
    rw [h] at e
    cases z with
    | bl b =>
      cases e
      obtain ⟨h1, h2⟩ := r2_isN (X := X) (tb := tb) g σ env H (fun v _ => v = .bl b) x y vx vy _ E rx ry h fun v H' _ r => by simpa only [Rep] using r
      refine ⟨h1, ?_⟩
      injection h2 with h2
      rw [h2]
      exact q _ H E.refl repB
    | _ => cases e
theorem qe_isN {a b : Expr} {f1 f2 : Env → T D} (h1 : QP X tb W a f1) (h2 : QP X tb W b f2) : QE X tb W (.Compare a [.Is] [b] pos) (e2 isND f1 f2) := qe_cmp op_isN r2_isN h1 h2
theorem qe_isNN {a b : Expr} {f1 f2 : Env → T D} (h1 : QP X tb W a f1) (h2 : QP X tb W b f2) : QE X tb W (.Compare a [.IsNot] [b] pos) (e2 isNND f1 f2) := qe_cmp op_notN r2_isNN h1 h2
end
end MM

namespace MM
open PySem PySem.Spec L2

/-! ### keys of dicts -/
def findK (k : D) : List (D × D) → Option D
  | [] => none
  | (j, d) :: r => if keyB j k then some d else findK k r
def putD (k v : D) : List (D × D) → List (D × D)
  | [] => [(k, v)]
  | (j, d) :: r => if keyB j k then (j, v) :: r else (j, d) :: putD k v r
theorem hasK_put {k v j : D} : ∀ {kvs : List (D × D)}, keyB k j = false → hasK j (putD k v kvs) = hasK j kvs
  | [], h => by simp [putD, hasK, h]
  | (i, d) :: r, h => by
    simp only [putD]
    cases e : keyB i k with
    | true => simp only [if_true, hasK]
    | false => simp only [Bool.false_eq_true, if_false, hasK, hasK_put (kvs := r) h]
theorem keyB_comm {i j : D} : keyB i j = keyB j i := by
  cases i <;> cases j <;> simp [keyB, eqNats_eq, eq_comm]
theorem nodK_put {k v : D} : ∀ {kvs : List (D × D)}, nodK kvs = true → nodK (putD k v kvs) = true
  | [], _ => by simp [putD, nodK, hasK]
  | (i, d) :: r, h => by
    simp only [nodK, Bool.and_eq_true, Bool.not_eq_true'] at h
    simp only [putD]
    cases e : keyB i k with
    | true => simp only [if_true, nodK, h.1, h.2, Bool.not_false, Bool.and_self]
    | false =>
      simp only [Bool.false_eq_true, if_false, nodK, nodK_put (v := v) h.2, Bool.and_true, Bool.not_eq_true']
      rw [hasK_put (by rw [keyB_comm]; exact e)]
      exact h.1
theorem putD_len {k v : D} : ∀ {kvs : List (D × D)}, (putD k v kvs).length ≤ kvs.length + 1
  | [] => by simp [putD]
  | (i, d) :: r => by
    simp only [putD]
    cases keyB i k with
    | true => simp
    | false =>
      have := putD_len (k := k) (v := v) (kvs := r)
      simp only [Bool.false_eq_true, if_false, List.length_cons]
      omega
theorem hasK_eq {k : D} : ∀ {kvs : List (D × D)}, hasK k kvs = (findK k kvs).isSome
  | [] => rfl
  | (j, d) :: r => by
    simp only [hasK, findK, hasK_eq (kvs := r)]
    cases keyB j k <;> simp
section
variable {p : Pg} {C : Addr → Prop} {H : Hp}
theorem Rep.key {k : D} {v : V} (hk : isK k = true) (r : Rep p C H k v) : ∃ kk : Key, v = kV kk := by
  cases k with
  | int i => simp only [Rep] at r; exact ⟨.inl i, r⟩
  | str s => simp only [Rep] at r; exact ⟨.inr (sl s), r.1⟩
  | _ => cases hk
theorem Rep.isK {k : D} {kk : Key} (r : Rep p C H k (kV kk)) : isK k = true := by
  cases k with
  | int i => rfl
  | str s => rfl
  | non => simp only [Rep] at r; cases kk <;> cases r
  | bl b => simp only [Rep] at r; cases kk <;> cases r
  | lst b => simp only [Rep] at r; obtain ⟨_, _, e, _⟩ := r; cases kk <;> cases e
  | tup b => simp only [Rep] at r; obtain ⟨_, _, e, _⟩ := r; cases kk <;> cases e
  | dic b => simp only [Rep] at r; obtain ⟨_, _, e, _⟩ := r; cases kk <;> cases e
  | dit b => simp only [Rep] at r; obtain ⟨_, _, e, _⟩ := r; cases kk <;> cases e
  | cup => simp only [Rep] at r; obtain ⟨_, e, _⟩ := r; cases kk <;> cases e
  | fn b => simp only [Rep] at r; obtain ⟨_, e, _⟩ := r; cases kk <;> cases e
  | ty b => simp only [Rep] at r; cases kk <;> cases r
theorem keyB_iff {C' : Addr → Prop} {H' : Hp} {j k : D} {jj kk : Key} (rj : Rep p C H j (kV jj)) (rk : Rep p C' H' k (kV kk)) : keyB j k = decide (jj = kk) := by
  have h1 := rj.isK
  have h2 := rk.isK
  cases j with
  | int i =>
    simp only [Rep] at rj
    cases jj with
    | inr x => cases rj
    | inl i' =>
      cases rj
      cases k with
      | int l =>
        simp only [Rep] at rk
        cases kk with
        | inr x => cases rk
        | inl l' => cases rk; simp [keyB]
      | str s =>
        simp only [Rep] at rk
        cases kk with
        | inl x => cases rk.1
        | inr x => simp [keyB]
      | _ => cases h2
  | str t =>
    simp only [Rep] at rj
    cases jj with
    | inl x => cases rj.1
    | inr x =>
      have e := rj.1
      cases e
      cases k with
      | int l =>
        simp only [Rep] at rk
        cases kk with
        | inr x => cases rk
        | inl l' => simp [keyB]
      | str s =>
        simp only [Rep] at rk
        cases kk with
        | inl x => cases rk.1
        | inr x =>
          have e := rk.1
          cases e
          simp only [keyB, eqNats_eq, Sum.inr.injEq, sl_inj]
      | _ => cases h2
  | _ => cases h1
theorem RepK.find {k : D} {kk : Key} {C' : Addr → Prop} {H' : Hp} (rk : Rep p C' H' k (kV kk)) : ∀ {kvs : List (D × D)} {kws : List (Key × V)}, RepK p C H kvs kws →
    (findK k kvs = none ∧ valV kws kk = none) ∨ ∃ d v, findK k kvs = some d ∧ valV kws kk = some v ∧ Rep p C H d v
  | [], _, h => by simp only [RepK] at h; subst h; exact .inl ⟨rfl, valV_nil⟩
  | (j, d) :: r, _, h => by
    simp only [RepK] at h
    obtain ⟨jj, v, ws, rfl, r1, r2, q⟩ := h
    have hb := keyB_iff r1 rk
    by_cases e : jj = kk
    · rw [decide_eq_true e] at hb
      exact .inr ⟨d, v, by simp only [findK, hb, if_true], valV_pos (p := (jj, v)) e, r2⟩
    · rw [decide_eq_false e] at hb
      rw [valV_neg (p := (jj, v)) e]
      simp only [findK, hb, Bool.false_eq_true, if_false]
      exact RepK.find rk q
theorem RepK.len : ∀ {kvs : List (D × D)} {kws : List (Key × V)}, RepK p C H kvs kws → kws.length = kvs.length
  | [], _, h => by simp only [RepK] at h; subst h; rfl
  | (j, d) :: r, _, h => by
    simp only [RepK] at h
    obtain ⟨jj, v, ws, rfl, r1, r2, q⟩ := h
    simp [RepK.len q]
theorem RepK.get {kvs : List (D × D)} {kws : List (Key × V)} (h : RepK p C H kvs kws) : ∀ {i : Nat} {k d : D}, kvs[i]? = some (k, d) → ∃ kk v, kws[i]? = some (kk, v) ∧ Rep p C H k (kV kk) ∧ Rep p C H d v := by
  induction kvs generalizing kws with
  | nil => intro i k d e; simp at e
  | cons x r ih =>
    intro i k d e
    obtain ⟨j, d0⟩ := x
    simp only [RepK] at h
    obtain ⟨jj, v, ws, rfl, r1, r2, q⟩ := h
    cases i with
    | zero =>
      simp at e
      obtain ⟨rfl, rfl⟩ := e
      exact ⟨jj, v, rfl, r1, r2⟩
    | succ i =>
      obtain ⟨kk, w, e1, q1⟩ := ih q (i := i) (by simpa using e)
      exact ⟨kk, w, by simpa using e1, q1⟩
theorem putK_cons (jj kk : Key) (w v : V) (ws : List (Key × V)) (e : jj ≠ kk) : putK ((jj, w) :: ws) kk v = (jj, w) :: putK ws kk v := by
  unfold putK
  simp only [List.any_cons, decide_eq_false e, Bool.false_or, List.map_cons, if_neg e, List.cons_append]
  cases ws.any fun kv => decide (kv.fst = kk) <;> rfl
theorem valV_keys {kk : Key} : ∀ {kws : List (Key × V)}, valV kws kk = none → ∀ q ∈ kws, q.1 ≠ kk
  | [], _, q, hq => by simp at hq
  | x :: ws, h, q, hq => by
    by_cases e : x.1 = kk
    · rw [valV_pos e] at h; cases h
    · rw [valV_neg e] at h
      rcases List.mem_cons.mp hq with rfl | hq
      · exact e
      · exact valV_keys h q hq
theorem RepK.put {k d : D} {kk : Key} {v : V} (rk : Rep p C H k (kV kk)) (rv : Rep p C H d v) : ∀ {kvs : List (D × D)} {kws : List (Key × V)}, nodK kvs = true → RepK p C H kvs kws → RepK p C H (putD k d kvs) (putK kws kk v)
  | [], _, _, h => by
    simp only [RepK] at h
    subst h
    simp only [putD, RepK]
    exact ⟨kk, v, [], rfl, rk, rv, rfl⟩
  | (j, d0) :: r, _, n, h => by
    simp only [RepK] at h
    obtain ⟨jj, w, ws, rfl, r1, r2, q⟩ := h
    simp only [nodK, Bool.and_eq_true, Bool.not_eq_true'] at n
    have hb := keyB_iff r1 rk
    by_cases e : jj = kk
    · rw [decide_eq_true e] at hb
      simp only [putD, hb, if_true, RepK]
      subst e
      have hn : valV ws jj = none := by
        rcases RepK.find r1 q with ⟨_, z⟩ | ⟨_, _, z, _⟩
        · exact z
        · rw [hasK_eq, z] at n; cases n.1
      refine ⟨jj, v, ws, ?_, r1, rv, q⟩
      unfold putK
      simp only [List.any_cons, decide_true, Bool.true_or, if_true, List.map_cons]
      congr 1
      refine (List.map_congr_left fun q hq => ?_).trans (List.map_id _)
      rw [if_neg (valV_keys hn q hq)]
      rfl
    · rw [decide_eq_false e] at hb
      simp only [putD, hb, Bool.false_eq_true, if_false, RepK]
      exact ⟨jj, w, _, putK_cons jj kk w v ws e, r1, r2, RepK.put rk rv n.2 q⟩
end

section
variable {X : Cx} {tb : Tb} {W : WX} {pos : Pos}
def rInDic (neg : Bool) : R2 := fun x y H Q => ∃ a o, y = .ref a ∧ DGet H a x o ∧ Q (.bl (if neg then !o.isSome else o.isSome)) H
theorem op_inDic (hu : X.A.units + 65 < cLine) : OpR X (compareOp .In) (rInDic false) := fun pins s σ H x y v u Q I rx ry ⟨a, o, ey, g, q⟩ => by
  subst ey
  cases ry
  exact d_in (by omega) I g rx fun s' I' => ⟨.bl o.isSome, H, I', rfl, q⟩
theorem op_notInDic (hu : X.A.units + 65 < cLine) : OpR X (compareOp .NotIn) (rInDic true) := fun pins s σ H x y v u Q I rx ry ⟨a, o, ey, g, q⟩ => by
  subst ey
  cases ry
  exact d_notIn (by omega) I g rx fun s' I' => ⟨.bl (!o.isSome), H, I', rfl, q⟩
def rIxDic : R2 := fun x y H Q => ∃ a v, x = .ref a ∧ DGet H a y (some v) ∧ Q v H
theorem ix_dic (hu : X.A.units + 65 < cLine) : IxR X rIxDic := fun value slice pins s σ H x y v u Q I rx ry ⟨a, w, ex, g, q⟩ hs => by
  subst ex
  cases rx
  exact PyProof.Rows.tail_any (dict_typeIs I g) PySem.F.slot_dict_getitem.lookup (d_getItem (by omega) I g ry fun w' s' I' rw' => ⟨w, H, I', rw', q⟩) hs
theorem call_len_dic : CallR X (.builtin "len") (fun xs H Q => ∃ a kvs, xs = [V.ref a] ∧ Rd H a (.dK kvs) ∧ Q (.int kvs.length) H) := fun pins s σ H xs us Q I r ⟨a, kvs, ex, ha, q⟩ => by
  subst ex
  obtain ⟨u, rfl, ru⟩ := vals1 r
  cases ru
  exact d_len I ha fun t s' I' => ⟨.int kvs.length, H, I', ⟨t, rfl⟩, q⟩
end

section
variable {p : Pg} {C : Addr → Prop} {H : Hp}
/-! ### flat things -/
def D.flat : D → Bool
  | .non => true | .bl _ => true | .int _ => true | .str _ => true | _ => false
def D.v : D → V
  | .bl b => .bl b | .int i => .int i | .str s => .str (sl s) | _ => .non
theorem Rep.flat {d : D} {v : V} (hf : d.flat = true) (h : Rep p C H d v) : v = d.v := by
  cases d with
  | str s => simp only [Rep] at h; exact h.1
  | non => simp only [Rep] at h; exact h
  | bl b => simp only [Rep] at h; exact h
  | int b => simp only [Rep] at h; exact h
  | _ => cases hf
theorem RepP.flat {d : D} {v : V} (hf : d.flat = true) (h : RepP p C H d v) : v = d.v := by
  cases d with
  | lst _ => cases hf
  | dic _ => cases hf
  | dit _ => cases hf
  | _ => exact Rep.flat (p := p) (C := C) (H := H) hf h
theorem flatV_v {d : D} (hf : d.flat = true) : flatV d.v = true := by
  cases d <;> first | rfl | exact (Bool.false_ne_true hf).elim
theorem eqV_v {d e : D} (hd : d.flat = true) (he : e.flat = true) : eqV d.v e.v = d.eqv e := by
  cases d <;> cases e <;> first
    | exact (Bool.false_ne_true hd).elim
    | exact (Bool.false_ne_true he).elim
    | (simp only [D.v, eqV, D.eqv]; done)
    | (simp only [D.v, eqV, D.eqv, Bool.beq_eq_decide_eq]; done)
    | (simp only [D.v, eqV, D.eqv]; exact strBeq)
theorem RepL.flat : ∀ {ds : List D} {vs : List V}, ds.all D.flat = true → RepL p C H ds vs → vs = ds.map D.v
  | [], _, _, h => by simp only [RepL] at h; exact h
  | d :: ds, _, hf, h => by
    simp only [RepL] at h
    obtain ⟨v, ws, rfl, r, q⟩ := h
    simp only [List.all_cons, Bool.and_eq_true] at hf
    rw [r.flat hf.1, RepL.flat hf.2 q]
    rfl
theorem all_flatV : ∀ {ds : List D}, ds.all D.flat = true → (ds.map D.v).all flatV = true
  | [], _ => rfl
  | d :: ds, h => by
    simp only [List.all_cons, Bool.and_eq_true] at h
    simp only [List.map_cons, List.all_cons, Bool.and_eq_true]
    exact ⟨flatV_v h.1, all_flatV h.2⟩
/-- whether one of several is equal to x -/
def anyEq (x : D) : List D → Bool
  | [] => false
  | y :: ys => y.eqv x || anyEq x ys
theorem inV_v {x : D} (hx : x.flat = true) : ∀ {ds : List D}, ds.all D.flat = true → inV x.v (ds.map D.v) = anyEq x ds
  | [], _ => rfl
  | d :: ds, h => by
    simp only [List.all_cons, Bool.and_eq_true] at h
    have ih := inV_v hx h.2
    unfold inV at ih ⊢
    simp only [List.map_cons, List.any_cons, anyEq, eqV_v h.1 hx, ih]
theorem any_py {x : D} (hx : x.okN 64 = true) : ∀ {ds : List D}, okNL 63 ds = true → ((toPyL ds).any fun z => PyData.eqv z x.toPy) = anyEq x ds
  | [], _ => rfl
  | d :: ds, h => by
    simp only [okNL, Bool.and_eq_true] at h
    simp only [toPyL, List.any_cons, anyEq, any_py hx h.2, D.eqv_py 63 64 d x h.1 hx]
end

def memN (c : Nat) : List Nat → Bool
  | [] => false
  | x :: xs => Nat.beq c x || memN c xs
theorem memN_eq {c : Nat} : ∀ {l : List Nat}, memN c l = decide (c ∈ l)
  | [] => by simp [memN]
  | x :: xs => by
    have h : Nat.beq c x = decide (c = x) := by
      by_cases e : c = x
      · subst e; simp [Nat.beq_refl]
      · rw [decide_eq_false e]
        cases q : Nat.beq c x with
        | false => rfl
        | true => exact absurd (Nat.eq_of_beq_eq_true q) e
    simp only [memN, h, memN_eq, List.mem_cons, Bool.decide_or]
/-- whether t begins with s; whether s stands somewhere in t -/
def preL : List Nat → List Nat → Bool
  | [], _ => true
  | _ :: _, [] => false
  | a :: as, b :: bs => Nat.beq a b && preL as bs
def subL (s : List Nat) : List Nat → Bool
  | [] => preL s []
  | b :: bs => preL s (b :: bs) || subL s bs
theorem preL_eq : ∀ {s t : List Nat}, preL s t = decide (t.take s.length = s)
  | [], t => by simp [preL]
  | _ :: _, [] => by simp [preL]
  | a :: as, b :: bs => by
    have h : Nat.beq a b = decide (b = a) := by
      by_cases e : b = a
      · subst e; simp [Nat.beq_refl]
      · rw [decide_eq_false e]
        cases q : Nat.beq a b with
        | false => rfl
        | true => exact absurd (Nat.eq_of_beq_eq_true q).symm e
    simp only [preL, h, preL_eq, List.length_cons, List.take_succ_cons, List.cons.injEq, Bool.decide_and]
theorem subL_iff {s : List Nat} : ∀ {t : List Nat}, subL s t = true ↔ ∃ i, i ≤ t.length ∧ (t.drop i).take s.length = s
  | [] => by
    simp only [subL, preL_eq, decide_eq_true_eq]
    constructor
    · intro h; exact ⟨0, Nat.le_refl _, by simpa using h⟩
    · rintro ⟨i, _, h⟩; simpa using h
  | b :: bs => by
    simp only [subL, preL_eq, Bool.or_eq_true, decide_eq_true_eq, subL_iff (t := bs)]
    constructor
    · rintro (h | ⟨i, h1, h2⟩)
      · exact ⟨0, Nat.zero_le _, by simpa using h⟩
      · exact ⟨i + 1, by simpa using h1, by simpa using h2⟩
    · rintro ⟨i, h1, h2⟩
      cases i with
      | zero => exact .inl (by simpa using h2)
      | succ i => exact .inr ⟨i, by simpa using h1, by simpa using h2⟩
theorem found_sl {s t : List Nat} : (!(Builtin.Str.occurrences (sl t) (sl s) 0 (sl t).length 1).isEmpty) = subL s t := by
  have h : (!(Builtin.Str.occurrences (sl t) (sl s) 0 (sl t).length 1).isEmpty) = true ↔ subL s t = true := by
    rw [PySem.StrLaws.found_iff, subL_iff]
    constructor
    · rintro ⟨i, h1, h2⟩
      rw [sl_len, sl_len] at h1
      rw [PySem.StrLaws.subAt_eq] at h2
      refine ⟨i, by omega, ?_⟩
      have := eq_of_beq h2
      rw [sl_len] at this
      simpa [sl] using this
    · rintro ⟨i, h1, h2⟩
      have e := congrArg List.length h2
      rw [List.length_take, List.length_drop] at e
      refine ⟨i, by rw [sl_len, sl_len]; omega, ?_⟩
      rw [PySem.StrLaws.subAt_eq, sl_len]
      simpa [sl] using h2
  cases h1 : (!(Builtin.Str.occurrences (sl t) (sl s) 0 (sl t).length 1).isEmpty) <;> cases h2 : subL s t <;> simp_all

section
variable {X : Cx} {tb : Tb} {W : WX} {pos : Pos}
/-! ### in -/
def inD0 (x y : D) : Option Bool := match y with
  | .str t => match x with
    | .str s => some (match s with
      | [c] => memN c t
      | s => subL s t)
    | _ => none
  | .lst ys => if x.flat && ys.all D.flat then some (anyEq x ys) else if x.okN 64 && okNL 63 ys then some (anyEq x ys) else none
  | .tup ys => if x.flat && ys.all D.flat then some (anyEq x ys) else if x.okN 64 && okNL 63 ys then some (anyEq x ys) else none
  | .dic kvs => if isK x then some (hasK x kvs) else none
  | _ => none
def inD (x y : D) : Option D := (inD0 x y).map .bl
def notInD (x y : D) : Option D := (inD0 x y).map fun b => .bl (!b)
def rInS (neg : Bool) : R2 := fun x y H Q => ∃ i j, x = .str i ∧ y = .str j ∧ Q (.bl (if neg then !(!(Builtin.Str.occurrences j i 0 j.length 1).isEmpty) else !(Builtin.Str.occurrences j i 0 j.length 1).isEmpty)) H
def rInDD (K : PySem.W.Frag) (neg : Bool) : R2 := fun x y H Q => ∃ d ds, Dp K H x d ∧ Dp K H y (.list ds) ∧ SeqAt.shaped d = true ∧ SeqAt.shaped (.list ds) = true ∧ Q (.bl (if neg then !(ds.any fun z => PyData.eqv z d) else ds.any fun z => PyData.eqv z d)) H
def rInTD (K : PySem.W.Frag) (neg : Bool) : R2 := fun x y H Q => ∃ d ds, Dp K H x d ∧ Dp K H y (.tuple ds) ∧ SeqAt.shaped d = true ∧ SeqAt.shaped (.tuple ds) = true ∧ Q (.bl (if neg then !(ds.any fun z => PyData.eqv z d) else ds.any fun z => PyData.eqv z d)) H
theorem op_inTD (hu : X.A.units + 65 < cLine) : OpR X (compareOp .In) (rInTD X.K false) := fun pins s0 σ H x y vx vy Q I rx ry ⟨d, ds, dx, dy, sx, sy, q⟩ => by
  obtain ⟨as, r1⟩ := Dp.reads I d x vx dx rx
  obtain ⟨bs, r2⟩ := Dp.reads I (.tuple ds) y vy dy ry
  exact SeqAt.in_tuple_reads r2 r1 (SeqAt.canLay_of_shaped sy) (SeqAt.canLay_of_shaped sx) (PyProof.Rows.room_in_shaped sx hu) ⟨.bl _, H, I, rfl, q⟩
theorem op_notInTD (hu : X.A.units + 65 < cLine) : OpR X (compareOp .NotIn) (rInTD X.K true) := fun pins s0 σ H x y vx vy Q I rx ry ⟨d, ds, dx, dy, sx, sy, q⟩ => by
  obtain ⟨as, r1⟩ := Dp.reads I d x vx dx rx
  obtain ⟨bs, r2⟩ := Dp.reads I (.tuple ds) y vy dy ry
  exact SeqAt.notIn_tuple_reads r2 r1 (SeqAt.canLay_of_shaped sy) (SeqAt.canLay_of_shaped sx) (PyProof.Rows.room_in_shaped sx hu) ⟨.bl _, H, I, rfl, q⟩
def rInAll (K : PySem.W.Frag) (neg : Bool) : R2 := fun x y H Q => rInS neg x y H Q ∨ rIn K neg x y H Q ∨ rInDD K neg x y H Q ∨ rInDic neg x y H Q ∨ rInTD K neg x y H Q
theorem op_inAll (hu : X.A.units + 65 < cLine) : OpR X (compareOp .In) (rInAll X.K false) :=
  OpR.or op_in_str (OpR.or op_in_seq (OpR.or (op_inD hu) (OpR.or (op_inDic hu) (op_inTD hu))))
theorem op_notInAll (hu : X.A.units + 65 < cLine) : OpR X (compareOp .NotIn) (rInAll X.K true) :=
  OpR.or op_notIn_str (OpR.or op_notIn_seq (OpR.or (op_notInD hu) (OpR.or (op_notInDic hu) (op_notInTD hu))))
theorem mem_sub {s t : List Nat} : (match s with | [c] => memN c t | s => subL s t) = subL s t := by
  split
  · rename_i c
    rw [memN_eq]
    have h1 : subL [c] t = true ↔ c ∈ t := by
      rw [subL_iff]
      constructor
      · rintro ⟨i, _, h⟩
        have : c ∈ (t.drop i).take [c].length := by rw [h]; simp
        exact List.mem_of_mem_drop (List.mem_of_mem_take this)
      · intro h
        obtain ⟨i, hi, e⟩ := List.getElem_of_mem h
        refine ⟨i, by omega, ?_⟩
        rw [List.drop_eq_getElem_cons hi, e]
        rfl
    cases h2 : subL [c] t with
    | true => exact decide_eq_true (h1.mp h2)
    | false => exact decide_eq_false fun h => by rw [h1.mpr h] at h2; cases h2
  · rfl
theorem r2_in0 (neg : Bool) {g : Gh} {σ : St} {env : Env} {H : Hp} {Q : VK} {x y : D} {vx vy : V} {b : Bool} (E : ER (pgOf X tb) g σ env H) (rx : RepP (pgOf X tb) g.C H x vx) (ry : RepP (pgOf X tb) g.C H y vy) (e : inD0 x y = some b)
    (q : Q (.bl (if neg then !b else b)) H) : rInAll X.K neg vx vy H Q := by
  unfold inD0 at e
  split at e
  · rename_i t
    split at e
    · rename_i s
      injection e with e
      rw [mem_sub] at e
      subst e
      simp only [RepP, Rep] at rx ry
      refine .inl ⟨_, _, rx.1, ry.1, ?_⟩
      rw [found_sl]
      exact q
    · cases e
  · rename_i ys
    split at e
    · rename_i h
      simp only [Bool.and_eq_true] at h
      cases e
      obtain ⟨a, vs, rfl, _, ea, la, ra⟩ := ry
      have ev := ra.flat h.2
      subst ev
      refine .inr (.inl ⟨a, _, rfl, .inl (.inl ea), by rw [rx.flat h.1]; exact flatV_v h.1, all_flatV h.2, ?_⟩)
      rw [rx.flat h.1, inV_v h.1 h.2]
      exact q
    · split at e
      · rename_i h
        simp only [Bool.and_eq_true] at h
        cases e
        have h2 : D.okN 64 (.lst ys) = true := by simpa [D.okN] using h.2
        refine .inr (.inr (.inl ⟨_, _, (rx.dp h.1).1, (ry.dp h2).1, rx.shaped h.1, ry.shaped h2, ?_⟩))
        rw [any_py h.1 h.2]
        exact q
      · cases e
  · rename_i ys
    split at e
    · rename_i h
      simp only [Bool.and_eq_true] at h
      cases e
      simp only [RepP, Rep] at ry
      obtain ⟨a, vs, rfl, ea, la, ra⟩ := ry
      have ev := ra.flat h.2
      subst ev
      refine .inr (.inl ⟨a, _, rfl, .inr ea, by rw [rx.flat h.1]; exact flatV_v h.1, all_flatV h.2, ?_⟩)
      rw [rx.flat h.1, inV_v h.1 h.2]
      exact q
    · split at e
      · rename_i h
        simp only [Bool.and_eq_true] at h
        cases e
        have h2 : D.okN 64 (.tup ys) = true := by simpa [D.okN] using h.2
        refine .inr (.inr (.inr (.inr ⟨_, _, (rx.dp h.1).1, (ry.dp h2).1, rx.shaped h.1, ry.shaped h2, ?_⟩)))
        rw [any_py h.1 h.2]
        exact q
      · cases e
  · rename_i kvs
    split at e
    · rename_i hk
      cases e
      obtain ⟨a, kws, rfl, _, ea, la, ra⟩ := ry
      have rx : Rep (pgOf X tb) g.C H x vx := by
        cases x <;> first | exact rx | cases hk
      obtain ⟨kk, rfl⟩ := rx.key hk
      refine .inr (.inr (.inr (.inl ⟨a, valV kws kk, rfl, .inl ⟨kws, kk, ea, rfl, rfl⟩, ?_⟩)))
      have e1 : (valV kws kk).isSome = hasK x kvs := by
        rw [hasK_eq]
        rcases RepK.find rx ra with ⟨z1, z2⟩ | ⟨d, v, z1, z2, _⟩ <;> rw [z1, z2] <;> rfl
      rw [e1]
      exact q
    · cases e
  · cases e
theorem r2_in : R2I X tb (rInAll X.K false) inD := fun g σ env H Q x y vx vy d E rx ry e q => by
  unfold inD at e
  cases h : inD0 x y with
  | none => rw [h] at e; cases e
  | some b => rw [h] at e; cases e; exact r2_in0 false E rx ry h (q _ H E.refl repB)
theorem r2_notIn : R2I X tb (rInAll X.K true) notInD := fun g σ env H Q x y vx vy d E rx ry e q => by
  unfold notInD at e
  cases h : inD0 x y with
  | none => rw [h] at e; cases e
  | some b => rw [h] at e; cases e; exact r2_in0 true E rx ry h (q _ H E.refl repB)
theorem qe_in {a b : Expr} {f1 f2 : Env → T D} (hu : X.A.units + 65 < cLine) (h1 : QP X tb W a f1) (h2 : QP X tb W b f2) (hm : behindInMarks .In b = false := by rfl) : QE X tb W (.Compare a [.In] [b] pos) (e2 inD f1 f2) := qe_cmp (op_inAll hu) r2_in h1 h2 hm
theorem qe_notIn {a b : Expr} {f1 f2 : Env → T D} (hu : X.A.units + 65 < cLine) (h1 : QP X tb W a f1) (h2 : QP X tb W b f2) (hm : behindInMarks .NotIn b = false := by rfl) : QE X tb W (.Compare a [.NotIn] [b] pos) (e2 notInD f1 f2) := qe_cmp (op_notInAll hu) r2_notIn h1 h2 hm

/-! ### a chain of two -/
def isBl : D → Option Bool
  | .bl b => some b
  | _ => none
def e3 (F G : D → D → Option D) (f1 f2 f3 : Env → T D) : Env → T D := fun env => (f1 env).bind fun x => (f2 env).bind fun y => (ofO ((F x y).bind isBl)).bind fun b => if b then (f3 env).bind fun z => ofO (G y z) else .ret (.bl false)
theorem imp_chain {F G : Int → Int → Bool} {f1 f2 f3 : Env → T D} {t1 t2 t3 : TE} (i1 : ImpP (pgOf X tb) W t1 f1) (i2 : ImpP (pgOf X tb) W t2 f2) (i3 : ImpP (pgOf X tb) W t3 f3) :
    ImpE (pgOf X tb) W (tChain (rI0 fun i j => .bl (F i j)) (rI0 fun i j => .bl (G i j)) t1 t2 t3) (e3 (iI (fun _ _ => true) fun i j => .bl (F i j)) (iI (fun _ _ => true) fun i j => .bl (G i j)) f1 f2 f3) := fun g σ env H Q E hw => by
  unfold e3 at hw
  rw [T.wp_bind] at hw
  refine i1 g σ env H _ E (T.wp_mono (fun x q vx H1 s1 r1 => ?_) (fun _ z => z) hw)
  rw [T.wp_bind] at q
  have E1 := E.step s1
  refine i2 g σ env H1 _ E1 (T.wp_mono (fun y q vy H2 s2 r2 => ?_) (wpStep s1) q)
  have E2 := E1.step s2
  rw [T.wp_bind] at q
  cases x with
  | int i =>
    cases y with
    | int j =>
      simp only [RepP, Rep] at r1 r2
      simp only [iI, if_pos, Option.bind_some, isBl, ofO, T.wp] at q
      refine ⟨i, j, r1, r2, F i j, rfl, ?_⟩
      cases hF : F i j with
      | true =>
        rw [hF, if_pos rfl] at q
        rw [if_pos rfl]
        rw [T.wp_bind] at q
        refine i3 g σ env H2 _ E2 (T.wp_mono (fun z q vz H3 s3 r3 => ?_) (wpStep (s1.trans s2)) q)
        cases z with
        | int k =>
          simp only [RepP, Rep] at r3
          simp only [iI, if_pos, ofO, T.wp] at q
          exact ⟨j, k, r2, r3, q _ H3 (s1.trans (s2.trans s3)) repB⟩
        | _ => exact q.elim
      | false =>
        rw [hF, if_neg (by simp)] at q
        rw [if_neg (by simp)]
        exact q _ H2 (s1.trans s2) repB
    | _ => exact q.elim
  | _ => exact q.elim
theorem qe_chain {op op' : CmpOp} {F G : Int → Int → Bool} {a b c : Expr} {f1 f2 f3 : Env → T D} (ho : OpR X (compareOp op) (rI0 fun i j => .bl (F i j))) (ho' : OpR X (compareOp op') (rI0 fun i j => .bl (G i j)))
    (h1 : QP X tb W a f1) (h2 : QP X tb W b f2) (h3 : QP X tb W c f3) (hm : lastMarks [op, op'] [b, c] = false := by rfl) :
    QE X tb W (.Compare a [op, op'] [b, c] pos) (e3 (iI (fun _ _ => true) fun i j => .bl (F i j)) (iI (fun _ _ => true) fun i j => .bl (G i j)) f1 f2 f3) := by
  obtain ⟨t1, p1, i1⟩ := h1.ex
  obtain ⟨t2, p2, i2⟩ := h2.ex
  obtain ⟨t3, p3, i3⟩ := h3.ex
  exact ⟨_, pe_chain ho ho' p1 p2 p3 hm, imp_chain i1 i2 i3⟩
end
end MM

namespace MM
open PySem PySem.Spec L2

section
variable {X : Cx} {tb : Tb} {W : WX} {pos : Pos}
/-! ### tests -/
def tB (f : Env → T D) : Env → T Bool := fun env => (f env).bind fun x => ofO (isBl x)
theorem isBl_eq {x : D} {b : Bool} (h : isBl x = some b) : x = .bl b := by
  cases x <;> first | (cases h; rfl) | cases h
theorem qt_val {e : Expr} {f : Env → T D} (h : QP X tb W e f) (he : ∀ whole, isTrue e X.env whole = (do let v ← whole; standAt e.pos; holding [v] (truthy v)) := by intro _; rfl) : QT X tb W e (tB f) := by
  obtain ⟨t, h1, h2⟩ := h.ex
  refine ⟨_, pt_val h1 he, fun g σ env H Q E hw => ?_⟩
  unfold tB at hw
  rw [T.wp_bind] at hw
  refine h2 g σ env H _ E (T.wp_mono (fun x q vx H1 s1 r1 => ?_) (fun _ z => z) hw)
  cases hx : isBl x with
  | none => rw [hx] at q; exact q.elim
  | some b =>
    rw [hx] at q
    have := isBl_eq hx
    subst this
    simp only [RepP, Rep] at r1
    exact ⟨b, r1, q H1 s1⟩
/-- truth of anything -/
def truD : D → Option Bool
  | .bl b => some b
  | .non => some false
  | .int i => some (i != 0)
  | .str s => some (!s.isEmpty)
  | .lst s => some (!s.isEmpty)
  | .tup s => some (!s.isEmpty)
  | _ => none
def tNot (f : Env → T Bool) : Env → T Bool := fun env => (f env).bind fun b => .ret (!b)
def tAnd (f h : Env → T Bool) : Env → T Bool := fun env => (f env).bind fun b => if b then h env else .ret false
def tOr (f h : Env → T Bool) : Env → T Bool := fun env => (f env).bind fun b => if b then .ret true else h env
theorem qt_not {a : Expr} {f : Env → T Bool} (h : QT X tb W a f) : QT X tb W (.UnaryOp .Not a pos) (tNot f) := by
  obtain ⟨t, h1, h2⟩ := h.ex
  refine ⟨_, pt_not h1, fun g σ env H Q E hw => ?_⟩
  unfold tNot at hw
  rw [T.wp_bind] at hw
  exact h2 g σ env H _ E hw
theorem qw_and1 {a : Expr} {f : Env → T Bool} (h : QT X tb W a f) : QW X tb W (.BoolOp .And [a] pos) f := by
  obtain ⟨t, h1, h2⟩ := h.ex
  exact ⟨t, pw_and1 h1, h2⟩
theorem qw_or1 {a : Expr} {f : Env → T Bool} (h : QT X tb W a f) : QW X tb W (.BoolOp .Or [a] pos) f := by
  obtain ⟨t, h1, h2⟩ := h.ex
  exact ⟨t, pw_or1 h1, h2⟩
theorem qw_and {a b : Expr} {rest : List Expr} {f h : Env → T Bool} (ha : QT X tb W a f) (hb : QW X tb W (.BoolOp .And (b :: rest) pos) h) : QW X tb W (.BoolOp .And (a :: b :: rest) pos) (tAnd f h) := by
  obtain ⟨t, h1, h2⟩ := ha.ex
  obtain ⟨t', h1', h2'⟩ := hb.ex
  refine ⟨_, pw_and h1 h1', fun g σ env H Q E hw => ?_⟩
  unfold tAnd at hw
  rw [T.wp_bind] at hw
  refine h2 g σ env H _ E (T.wp_mono (fun b q H1 s1 => ?_) (fun _ z => z) hw)
  cases b with
  | true =>
    rw [if_pos rfl] at q ⊢
    exact h2' g σ env H1 _ (E.step s1) (T.wp_mono (fun b q H2 s2 => q H2 (s1.trans s2)) (wpStep s1) q)
  | false =>
    rw [if_neg (by simp)] at q ⊢
    exact q H1 s1
theorem qw_or {a b : Expr} {rest : List Expr} {f h : Env → T Bool} (ha : QT X tb W a f) (hb : QW X tb W (.BoolOp .Or (b :: rest) pos) h) : QW X tb W (.BoolOp .Or (a :: b :: rest) pos) (tOr f h) := by
  obtain ⟨t, h1, h2⟩ := ha.ex
  obtain ⟨t', h1', h2'⟩ := hb.ex
  refine ⟨_, pw_or h1 h1', fun g σ env H Q E hw => ?_⟩
  unfold tOr at hw
  rw [T.wp_bind] at hw
  refine h2 g σ env H _ E (T.wp_mono (fun b q H1 s1 => ?_) (fun _ z => z) hw)
  cases b with
  | true =>
    rw [if_pos rfl] at q ⊢
    exact q H1 s1
  | false =>
    rw [if_neg (by simp)] at q ⊢
    exact h2' g σ env H1 _ (E.step s1) (T.wp_mono (fun b q H2 s2 => q H2 (s1.trans s2)) (wpStep s1) q)
/-! .. as values -/
def eNot (f : Env → T D) : Env → T D := fun env => (f env).bind fun x => (ofO (isBl x)).bind fun b => .ret (.bl (!b))
def eAnd (f h : Env → T D) : Env → T D := fun env => (f env).bind fun x => (ofO (isBl x)).bind fun b => if b then h env else .ret (.bl false)
def eOr (f h : Env → T D) : Env → T D := fun env => (f env).bind fun x => (ofO (isBl x)).bind fun b => if b then .ret (.bl true) else h env
theorem qe_one {op} {a : Expr} {f : Env → T D} (h : QE X tb W a f) : QE X tb W (.BoolOp op [a] pos) f := by
  obtain ⟨t, h1, h2⟩ := h.ex
  exact ⟨t, pe_one h1, h2⟩
theorem qe_not {a : Expr} {f : Env → T D} (h : QP X tb W a f) : QE X tb W (.UnaryOp .Not a pos) (eNot f) := by
  obtain ⟨t, h1, h2⟩ := h.ex
  refine ⟨_, pe_not h1, fun g σ env H Q E hw => ?_⟩
  unfold eNot at hw
  rw [T.wp_bind] at hw
  refine h2 g σ env H _ E (T.wp_mono (fun x q vx H1 s1 r1 => ?_) (fun _ z => z) hw)
  cases hx : isBl x with
  | none => rw [hx] at q; exact q.elim
  | some b =>
    rw [hx] at q
    have := isBl_eq hx
    subst this
    simp only [RepP, Rep] at r1
    exact ⟨b, r1, q _ H1 s1 repB⟩
theorem qe_and {a b : Expr} {rest : List Expr} {f h : Env → T D} (ha : QP X tb W a f) (hb : QE X tb W (.BoolOp .And (b :: rest) pos) h) : QE X tb W (.BoolOp .And (a :: b :: rest) pos) (eAnd f h) := by
  obtain ⟨t, h1, h2⟩ := ha.ex
  obtain ⟨t', h1', h2'⟩ := hb.ex
  refine ⟨_, pe_and h1 h1', fun g σ env H Q E hw => ?_⟩
  unfold eAnd at hw
  rw [T.wp_bind] at hw
  refine h2 g σ env H _ E (T.wp_mono (fun x q vx H1 s1 r1 => ?_) (fun _ z => z) hw)
  cases hx : isBl x with
  | none => rw [hx] at q; exact q.elim
  | some b =>
    rw [hx] at q
    have := isBl_eq hx
    subst this
    simp only [RepP, Rep] at r1
    refine ⟨b, r1, ?_⟩
    simp only [ofO, T.bind] at q
    cases b with
    | true =>
      rw [if_pos rfl] at q ⊢
      exact h2' g σ env H1 _ (E.step s1) (T.wp_mono (fun d q v H2 s2 r => q v H2 (s1.trans s2) r) (wpStep s1) q)
    | false =>
      rw [if_neg (by simp)] at q ⊢
      exact q _ H1 s1 repB
theorem qe_or {a b : Expr} {rest : List Expr} {f h : Env → T D} (ha : QP X tb W a f) (hb : QE X tb W (.BoolOp .Or (b :: rest) pos) h) : QE X tb W (.BoolOp .Or (a :: b :: rest) pos) (eOr f h) := by
  obtain ⟨t, h1, h2⟩ := ha.ex
  obtain ⟨t', h1', h2'⟩ := hb.ex
  refine ⟨_, pe_or h1 h1', fun g σ env H Q E hw => ?_⟩
  unfold eOr at hw
  rw [T.wp_bind] at hw
  refine h2 g σ env H _ E (T.wp_mono (fun x q vx H1 s1 r1 => ?_) (fun _ z => z) hw)
  cases hx : isBl x with
  | none => rw [hx] at q; exact q.elim
  | some b =>
    rw [hx] at q
    have := isBl_eq hx
    subst this
    simp only [RepP, Rep] at r1
    refine ⟨b, r1, ?_⟩
    simp only [ofO, T.bind] at q
    cases b with
    | true =>
      rw [if_pos rfl] at q ⊢
      exact q _ H1 s1 repB
    | false =>
      rw [if_neg (by simp)] at q ⊢
      exact h2' g σ env H1 _ (E.step s1) (T.wp_mono (fun d q v H2 s2 r => q v H2 (s1.trans s2) r) (wpStep s1) q)
def eIf (c : Env → T Bool) (f h : Env → T D) : Env → T D := fun env => (c env).bind fun b => if b then f env else h env
theorem qe_if {c a b : Expr} {fc : Env → T Bool} {f h : Env → T D} (hc : QT X tb W c fc) (ha : QE X tb W a f) (hb : QE X tb W b h) : QE X tb W (.IfExp c a b pos) (eIf fc f h) := by
  obtain ⟨t, h1, h2⟩ := hc.ex
  obtain ⟨ta, a1, a2⟩ := ha.ex
  obtain ⟨tb', b1, b2⟩ := hb.ex
  refine ⟨_, pe_ifExp h1 a1 b1, fun g σ env H Q E hw => ?_⟩
  unfold eIf at hw
  rw [T.wp_bind] at hw
  refine h2 g σ env H _ E (T.wp_mono (fun b q H1 s1 => ?_) (fun _ z => z) hw)
  cases b with
  | true =>
    rw [if_pos rfl] at q ⊢
    exact a2 g σ env H1 _ (E.step s1) (T.wp_mono (fun d q v H2 s2 r => q v H2 (s1.trans s2) r) (wpStep s1) q)
  | false =>
    rw [if_neg (by simp)] at q ⊢
    exact b2 g σ env H1 _ (E.step s1) (T.wp_mono (fun d q v H2 s2 r => q v H2 (s1.trans s2) r) (wpStep s1) q)

/-! ### arguments -/
def aNil : Env → T (List D) := fun _ => .ret []
def aCons (f : Env → T D) (h : Env → T (List D)) : Env → T (List D) := fun env => (f env).bind fun x => (h env).bind fun xs => .ret (x :: xs)
theorem qa_nil : QA X tb W [] aNil := ⟨tNil, pa_nil, fun g σ env H Q E hw => hw [] H E.refl .nil⟩
theorem qa_cons {e : Expr} {es : List Expr} {f : Env → T D} {h : Env → T (List D)} (h1 : QE X tb W e f) (h2 : QA X tb W es h) (hs : starEach (e :: es) X.env = (false, eval e X.env) :: starEach es X.env := by rfl) : QA X tb W (e :: es) (aCons f h) := by
  obtain ⟨t, p1, i1⟩ := h1.ex
  obtain ⟨t', p2, i2⟩ := h2.ex
  refine ⟨_, pa_cons p1 p2 hs, fun g σ env H Q E hw => ?_⟩
  unfold aCons at hw
  rw [T.wp_bind] at hw
  refine i1 g σ env H _ E (T.wp_mono (fun x q vx H1 s1 r1 => ?_) (fun _ z => z) hw)
  rw [T.wp_bind] at q
  have E1 := E.step s1
  refine i2 g σ env H1 _ E1 (T.wp_mono (fun xs q vs H2 s2 r2 => ?_) (wpStep s1) q)
  exact q _ H2 (s1.trans s2) (.cons (r1.mv (E1.mv s2)) r2)
/-- arguments that are only read -/
structure QAP (X : Cx) (tb : Tb) (W : WX) (es : List Expr) (f : Env → T (List D)) : Prop where
  ex : ∃ t, PA X es t ∧ ∀ g σ env H (Q : List V → Hp → Prop), ER (pgOf X tb) g σ env H →
    (f env).wp (fun ds => ∀ vs H', Step (pgOf X tb) g.C H H' → RepPs (pgOf X tb) g.C H' ds vs → Q vs H') (XP (pgOf X tb) g σ H W) → t σ H Q
theorem qap_nil : QAP X tb W [] aNil := ⟨tNil, pa_nil, fun g σ env H Q E hw => hw [] H E.refl rfl⟩
theorem qap_cons {e : Expr} {es : List Expr} {f : Env → T D} {h : Env → T (List D)} (h1 : QP X tb W e f) (h2 : QAP X tb W es h) (hs : starEach (e :: es) X.env = (false, eval e X.env) :: starEach es X.env := by rfl) : QAP X tb W (e :: es) (aCons f h) := by
  obtain ⟨t, p1, i1⟩ := h1.ex
  obtain ⟨t', p2, i2⟩ := h2.ex
  refine ⟨_, pa_cons p1 p2 hs, fun g σ env H Q E hw => ?_⟩
  unfold aCons at hw
  rw [T.wp_bind] at hw
  refine i1 g σ env H _ E (T.wp_mono (fun x q vx H1 s1 r1 => ?_) (fun _ z => z) hw)
  rw [T.wp_bind] at q
  have E1 := E.step s1
  refine i2 g σ env H1 _ E1 (T.wp_mono (fun xs q vs H2 s2 r2 => ?_) (wpStep s1) q)
  exact q _ H2 (s1.trans s2) ⟨vx, vs, rfl, r1.step E1 s2, r2⟩
/-- a built-in's rule, for data -/
def CRI (X : Cx) (tb : Tb) (r : List V → Hp → VK → Prop) (F : List D → Option D) : Prop := ∀ g σ env H (Q : VK) xs vs d, ER (pgOf X tb) g σ env H → RepPs (pgOf X tb) g.C H xs vs → F xs = some d →
  (∀ v H', Step (pgOf X tb) g.C H H' → Rep (pgOf X tb) g.C H' d v → Q v H') → r vs H Q
def eCall (F : List D → Option D) (fa : Env → T (List D)) : Env → T D := fun env => (fa env).bind fun xs => ofO (F xs)
theorem qe_callB {x : Str} {id : String} {e : Expr} {es : List Expr} {p : Pos} {r : List V → Hp → VK → Prop} {F : List D → Option D} {fa : Env → T (List D)} (hc : CallR X (.builtin id) r) (hr : CRI X tb r F) (hg : Gl X x) (hm : X.mg x = none) (hv : bootBuiltins x = some (.builtin id))
    (ha : QAP X tb W (e :: es) fa) (hs : starEach (e :: es) X.env = (false, eval e X.env) :: starEach es X.env := by rfl) (hpl : (backTo pos (starEach es X.env)).any (·.1) = false := by rfl) (hn : x ≠ "__name__" := by decide) (hdb : (x == ("__debug__" : Str)) = false := by decide) : QE X tb W (.Call (.Name x p) (e :: es) [] pos) (eCall F fa) := by
  obtain ⟨t, p1, i1⟩ := ha.ex
  refine ⟨_, pe_callB hc hg hm hv p1 hn hdb hs hpl, fun g σ env H Q E hw => ?_⟩
  unfold eCall at hw
  rw [T.wp_bind] at hw
  refine i1 g σ env H _ E (T.wp_mono (fun xs q vs H1 s1 r1 => ?_) (fun _ z => z) hw)
  cases hF : F xs with
  | none => rw [hF] at q; exact q.elim
  | some d => rw [hF] at q; exact hr g σ env H1 Q xs vs d (E.step s1) r1 hF (wpDone s1 q)
theorem qe_callTy {x : Str} {T' : String} {e : Expr} {es : List Expr} {p : Pos} {r : List V → Hp → VK → Prop} {F : List D → Option D} {fa : Env → T (List D)} (hc : CallR X (.type T') r) (hr : CRI X tb r F) (hg : Gl X x) (hm : X.mg x = none) (hv : bootBuiltins x = some (.type T'))
    (ha : QAP X tb W (e :: es) fa) (hs : starEach (e :: es) X.env = (false, eval e X.env) :: starEach es X.env := by rfl) (hpl : (backTo pos (starEach es X.env)).any (·.1) = false := by rfl) (hn : x ≠ "__name__" := by decide) (hdb : (x == ("__debug__" : Str)) = false := by decide) : QE X tb W (.Call (.Name x p) (e :: es) [] pos) (eCall F fa) := by
  obtain ⟨t, p1, i1⟩ := ha.ex
  refine ⟨_, pe_callTy hc hg hm hv p1 hn hdb hs hpl, fun g σ env H Q E hw => ?_⟩
  unfold eCall at hw
  rw [T.wp_bind] at hw
  refine i1 g σ env H _ E (T.wp_mono (fun xs q vs H1 s1 r1 => ?_) (fun _ z => z) hw)
  cases hF : F xs with
  | none => rw [hF] at q; exact q.elim
  | some d => rw [hF] at q; exact hr g σ env H1 Q xs vs d (E.step s1) r1 hF (wpDone s1 q)
end
end MM

namespace MM
open PySem PySem.Spec L2

section
variable {X : Cx} {tb : Tb} {W : WX} {pos : Pos}
def rep1 {p : Pg} {C : Addr → Prop} {H : Hp} {x : D} {vs : List V} (h : RepPs p C H [x] vs) : ∃ v, vs = [v] ∧ RepP p C H x v := by
  obtain ⟨v, ws, rfl, r, q⟩ := h
  have q : ws = [] := q
  subst q
  exact ⟨v, rfl, r⟩
def rep2 {p : Pg} {C : Addr → Prop} {H : Hp} {x y : D} {vs : List V} (h : RepPs p C H [x, y] vs) : ∃ v w, vs = [v, w] ∧ RepP p C H x v ∧ RepP p C H y w := by
  obtain ⟨v, ws, rfl, r, q⟩ := h
  obtain ⟨w, rfl, q1⟩ := rep1 q
  exact ⟨v, w, rfl, r, q1⟩
/-! ### len -/
def lenL {α : Type} : List α → Nat
  | [] => 0
  | _ :: xs => Nat.succ (lenL xs)
theorem lenL_eq {α : Type} : ∀ (l : List α), lenL l = l.length
  | [] => rfl
  | _ :: xs => by simp [lenL, lenL_eq xs]
def lenD : List D → Option D
  | [.str s] => some (.int s.length)
  | [.lst s] => some (.int s.length)
  | [.tup s] => some (.int s.length)
  | [.dic s] => some (.int s.length)
  | _ => none
def rLenD (K : PySem.W.Frag) (xs : List V) (H : Hp) (Q : VK) : Prop := (∃ p ys, xs = [.ref p] ∧ (SqL K H p ys ∨ SqT K H p ys) ∧ Q (.int ys.length) H) ∨ (∃ z, xs = [.str z] ∧ z.length ≤ sizeLine ∧ Q (.int z.length) H) ∨ ∃ a kvs, xs = [V.ref a] ∧ Rd H a (.dK kvs) ∧ Q (.int kvs.length) H
theorem call_lenD : CallR X (.builtin "len") (rLenD X.K) := CallR.or call_len_seq (CallR.or call_len_str call_len_dic)
theorem cri_len : CRI X tb (rLenD X.K) lenD := fun g σ env H Q xs vs d E r e q => by
  unfold lenD at e
  split at e
  · rename_i s
    cases e
    obtain ⟨v, rfl, r1⟩ := rep1 r
    simp only [RepP, Rep] at r1
    exact .inr (.inl ⟨_, by rw [r1.1], by rw [sl_len]; exact r1.2.2, by rw [sl_len]; exact q _ H E.refl repI⟩)
  · rename_i s
    cases e
    obtain ⟨v, rfl, r1⟩ := rep1 r
    obtain ⟨a, vs, rfl, _, ea, la, ra⟩ := r1
    refine .inl ⟨a, vs, rfl, .inl (.inl ea), ?_⟩
    rw [ra.length]
    exact q _ H E.refl repI
  · rename_i s
    cases e
    obtain ⟨v, rfl, r1⟩ := rep1 r
    simp only [RepP, Rep] at r1
    obtain ⟨a, vs, rfl, ea, la, ra⟩ := r1
    refine .inl ⟨a, vs, rfl, .inr ea, ?_⟩
    rw [ra.length]
    exact q _ H E.refl repI
  · rename_i s
    cases e
    obtain ⟨v, rfl, r1⟩ := rep1 r
    obtain ⟨a, vs, rfl, _, ea, la, ra⟩ := r1
    refine .inr (.inr ⟨a, vs, rfl, ea, ?_⟩)
    rw [ra.len]
    exact q _ H E.refl repI
  · cases e
theorem qe_len {e : Expr} {p : Pos} {f : Env → T D} (hg : Gl X "len") (hm : X.mg "len" = none) (ha : QP X tb W e f) (hs : starEach [e] X.env = [(false, eval e X.env)] := by rfl) (hpl : (backTo pos (starEach [] X.env)).any (·.1) = false := by rfl) :
    QE X tb W (.Call (.Name "len" p) [e] [] pos) (eCall lenD (aCons f aNil)) := qe_callB call_lenD cri_len hg hm PySem.boot_len (qap_cons ha qap_nil hs) hs hpl
/-! ### isinstance -/
def tyOf : D → Option String
  | .non => some "NoneType" | .bl _ => some "bool" | .int _ => some "int" | .str _ => some "str" | .lst _ => some "list" | .tup _ => some "tuple" | .dic _ => some "dict" | _ => none
def isiB (t : String) (d : D) : Option Bool := match d with
  | .non => some false
  | .bl _ => some (t == "bool" || t == "int")
  | .int _ => some (t == "int")
  | .str _ => some (t == "str")
  | .lst _ => some (t == "list")
  | .tup _ => some (t == "tuple")
  | .dic _ => some (t == "dict")
  | _ => none
def goodTy (t : String) : Bool := ["int", "bool", "str", "list", "tuple", "dict"].contains t
theorem kit_good {K : PySem.W.Frag} {t : String} (h : goodTy t = true) : ∀ d a b, tyOf d = some a → isiB t d = some b → PySem.W.kitOne K (.type a) (.type t) = some b := by
  intro d a b h1 h2
  refine kit_ty ?_
  simp only [goodTy, List.contains_eq_mem, List.mem_cons, List.not_mem_nil, or_false, decide_eq_true_eq] at h
  cases d <;> first | cases h1 | skip
  all_goals (injection h2 with h2; subst h2; rcases h with rfl | rfl | rfl | rfl | rfl | rfl <;> decide +kernel)
theorem tyX_of {p : Pg} {C : Addr → Prop} {H : Hp} {d : D} {v : V} {a : String} (h : RepP p C H d v) (ht : tyOf d = some a) : TyX p.K H v (.type a) := by
  cases d with
  | non => cases ht; simp only [RepP, Rep] at h; subst h; exact .base .non
  | bl b => cases ht; simp only [RepP, Rep] at h; subst h; exact .base (.bl b)
  | int b => cases ht; simp only [RepP, Rep] at h; subst h; exact .base (.int b)
  | str b => cases ht; simp only [RepP, Rep] at h; obtain ⟨rfl, _⟩ := h; exact .base (.str _)
  | lst b =>
    cases ht
    obtain ⟨a, vs, rfl, _, e, _⟩ := h
    rcases e with e | ⟨o, e⟩
    · exact .base (.lst e)
    · exact .base (.frz e)
  | dic b =>
    cases ht
    obtain ⟨a, vs, rfl, _, e, _⟩ := h
    rcases e with e | ⟨o, e⟩
    · exact .base (.dK e)
    · exact .fDict e
  | tup b =>
    cases ht
    simp only [RepP, Rep] at h
    obtain ⟨a, vs, rfl, e, _⟩ := h
    rcases e with (e | ⟨o, e⟩) | ⟨o, its, n, e, c, _⟩
    · exact .base (.tup e)
    · exact .fTuple e
    · exact .kTuple e c
  | _ => cases ht
def isiD (t : String) (d : D) : Option D := (isiB t d).map .bl
def e1 (F : D → Option D) (f : Env → T D) : Env → T D := fun env => (f env).bind fun x => ofO (F x)
theorem qe_isi {t : String} {x : Str} {e : Expr} {p p2 : Pos} {f : Env → T D} (ht : goodTy t = true) (hg : Gl X "isinstance") (hm : X.mg "isinstance" = none) (hg2 : Gl X x) (hm2 : X.mg x = none) (hv : bootBuiltins x = some (.type t)) (ha : QP X tb W e f)
    (hn2 : x ≠ "__name__" := by decide) (hd2 : (x == ("__debug__" : Str)) = false := by decide)
    (hs : starEach [e, .Name x p2] X.env = (false, eval e X.env) :: starEach [.Name x p2] X.env := by rfl) (hs2 : starEach [.Name x p2] X.env = [(false, eval (.Name x p2) X.env)] := by rfl) (hpl : (backTo pos (starEach [.Name x p2] X.env)).any (·.1) = false := by rfl) :
    QE X tb W (.Call (.Name "isinstance" p) [e, .Name x p2] [] pos) (e1 (isiD t) f) := by
  obtain ⟨te, p1, i1⟩ := ha.ex
  have pn : PE X (.Name x p2) (tC (.ty t)) := pe_bltn (v := .ty t) hg2 hm2 hv rfl hn2 hd2
  refine ⟨_, pe_callB call_isi hg hm (by decide +kernel) (pa_cons p1 (pa_cons pn pa_nil hs2) hs) (by decide) (by decide) hs hpl, fun g σ env H Q E hw => ?_⟩
  unfold e1 at hw
  rw [T.wp_bind] at hw
  refine i1 g σ env H _ E (T.wp_mono (fun d q v H1 s1 r1 => ?_) (fun _ z => z) hw)
  unfold isiD at q
  cases h1 : isiB t d with
  | none => rw [h1] at q; exact q.elim
  | some b =>
    rw [h1] at q
    obtain ⟨a, h2⟩ : ∃ a, tyOf d = some a := by cases d <;> first | exact ⟨_, rfl⟩ | cases h1
    exact ⟨v, .ty t, _, _, b, rfl, .ty t, tyX_of r1 h2, kit_good ht d a b h2 h1, q _ H1 s1 repB⟩
/-! ### all, any -/
def allBl : List D → Option (List Bool)
  | [] => some []
  | .bl b :: ds => (allBl ds).map (b :: ·)
  | _ => none
theorem allBl_rep {p : Pg} {C : Addr → Prop} {H : Hp} : ∀ {ds : List D} {vs : List V} {bs : List Bool}, RepL p C H ds vs → allBl ds = some bs → vs = bs.map V.bl
  | [], _, _, h, e => by cases e; simp only [RepL] at h; exact h
  | d :: ds, _, bs, h, e => by
    simp only [RepL] at h
    obtain ⟨v, ws, rfl, r, q⟩ := h
    cases d with
    | bl b =>
      simp only [allBl] at e
      cases h2 : allBl ds with
      | none => rw [h2] at e; cases e
      | some cs =>
        rw [h2] at e
        cases e
        simp only [Rep] at r
        subst r
        rw [allBl_rep q h2]
        rfl
    | _ => cases e
def allT : List Bool → Bool
  | [] => true
  | b :: bs => b && allT bs
def anyT : List Bool → Bool
  | [] => false
  | b :: bs => b || anyT bs
theorem allT_eq : ∀ (l : List Bool), l.all id = allT l
  | [] => rfl
  | b :: bs => by simp [allT, allT_eq bs]
theorem anyT_eq : ∀ (l : List Bool), l.any id = anyT l
  | [] => rfl
  | b :: bs => by simp [anyT, anyT_eq bs]
def allD : List D → Option D
  | [.lst ds] => (allBl ds).map fun bs => .bl (allT bs)
  | _ => none
def anyD : List D → Option D
  | [.lst ds] => (allBl ds).map fun bs => .bl (anyT bs)
  | _ => none
theorem cri_all : CRI X tb (rAll X.K) allD := fun g σ env H Q xs vs d E r e q => by
  unfold allD at e
  split at e
  · rename_i ds
    obtain ⟨v, rfl, r1⟩ := rep1 r
    obtain ⟨a, ws, rfl, _, ea, la, ra⟩ := r1
    cases h : allBl ds with
    | none => rw [h] at e; cases e
    | some bs =>
      rw [h] at e
      cases e
      have := allBl_rep ra h
      subst this
      refine ⟨a, bs, rfl, .inl ea, ?_⟩
      rw [allT_eq]
      exact q _ H E.refl repB
  · cases e
theorem cri_any : CRI X tb (rAny X.K) anyD := fun g σ env H Q xs vs d E r e q => by
  unfold anyD at e
  split at e
  · rename_i ds
    obtain ⟨v, rfl, r1⟩ := rep1 r
    obtain ⟨a, ws, rfl, _, ea, la, ra⟩ := r1
    cases h : allBl ds with
    | none => rw [h] at e; cases e
    | some bs =>
      rw [h] at e
      cases e
      have := allBl_rep ra h
      subst this
      refine ⟨a, bs, rfl, .inl ea, ?_⟩
      rw [anyT_eq]
      exact q _ H E.refl repB
  · cases e
theorem qe_all {e : Expr} {p : Pos} {f : Env → T D} (hc : X.calm = true) (hg : Gl X "all") (hm : X.mg "all" = none) (ha : QP X tb W e f) (hs : starEach [e] X.env = [(false, eval e X.env)] := by rfl) (hpl : (backTo pos (starEach [] X.env)).any (·.1) = false := by rfl) :
    QE X tb W (.Call (.Name "all" p) [e] [] pos) (eCall allD (aCons f aNil)) := qe_callB (cr_all hc) cri_all hg hm (by decide +kernel) (qap_cons ha qap_nil hs) hs hpl
theorem qe_any {e : Expr} {p : Pos} {f : Env → T D} (hc : X.calm = true) (hg : Gl X "any") (hm : X.mg "any" = none) (ha : QP X tb W e f) (hs : starEach [e] X.env = [(false, eval e X.env)] := by rfl) (hpl : (backTo pos (starEach [] X.env)).any (·.1) = false := by rfl) :
    QE X tb W (.Call (.Name "any" p) [e] [] pos) (eCall anyD (aCons f aNil)) := qe_callB (cr_any hc) cri_any hg hm (by decide +kernel) (qap_cons ha qap_nil hs) hs hpl

/-! ### x[i], x[a:b] -/
def ixD : D → D → Option D
  | .lst xs, .int i => (ixN xs.length i).bind fun j => xs[j]?
  | .tup xs, .int i => (ixN xs.length i).bind fun j => xs[j]?
  | .str s, .int i => (ixN s.length i).bind fun j => s[j]?.map fun c => .str [c]
  | .dic kvs, k => if isK k then findK k kvs else none
  | _, _ => none
def rIxD (K : PySem.W.Frag) : R2 := fun x y H Q => rIx K x y H Q ∨ rIxDic x y H Q
theorem r2_ix : R2I X tb (rIxD X.K) ixD := fun g σ env H Q x y vx vy d E rx ry e q => by
  unfold ixD at e
  split at e
  · rename_i xs i
    obtain ⟨a, vs, rfl, _, ea, la, ra⟩ := rx
    simp only [RepP, Rep] at ry
    subst ry
    cases h : ixN xs.length i with
    | none => rw [h] at e; cases e
    | some j =>
      rw [h] at e
      obtain ⟨v, e1, r⟩ := ra.get e
      exact .inl (.inl ⟨a, vs, i, v, rfl, rfl, .inl ea, by unfold atI; rw [ra.length, h]; exact e1, q v H E.refl r⟩)
  · rename_i xs i
    simp only [RepP, Rep] at rx ry
    obtain ⟨a, vs, rfl, ea, la, ra⟩ := rx
    subst ry
    cases h : ixN xs.length i with
    | none => rw [h] at e; cases e
    | some j =>
      rw [h] at e
      obtain ⟨v, e1, r⟩ := ra.get e
      exact .inl (.inr (.inl ⟨a, vs, i, v, rfl, rfl, ea, by unfold atI; rw [ra.length, h]; exact e1, q v H E.refl r⟩))
  · rename_i s i
    simp only [RepP, Rep] at rx ry
    obtain ⟨rfl, h1, h2⟩ := rx
    subst ry
    cases h : ixN s.length i with
    | none => rw [h] at e; cases e
    | some j =>
      rw [h] at e
      simp only [Option.bind_some] at e
      cases hc : s[j]? with
      | none => rw [hc] at e; cases e
      | some c =>
        rw [hc] at e
        cases e
        refine .inl (.inr (.inr ⟨_, i, c, rfl, rfl, by rw [sl_len]; exact h2, ?_, q _ H E.refl (repStr (s := [c]) (fun z hz => ?_) (by rw [size16]; simp))⟩))
        · unfold atI
          simp only [sl]
          rw [h]
          exact hc
        · have : z = c := by simpa using hz
          subst this
          exact h1 z (List.mem_of_getElem? hc)
  · rename_i kvs
    split at e
    · rename_i hk
      obtain ⟨a, kws, rfl, _, ea, la, ra⟩ := rx
      have ry : Rep (pgOf X tb) g.C H y vy := by
        cases y <;> first | exact ry | cases hk
      obtain ⟨kk, rfl⟩ := ry.key hk
      rcases RepK.find ry ra with ⟨z1, _⟩ | ⟨d', v, z1, z2, r⟩
      · rw [z1] at e; cases e
      · rw [z1] at e
        cases e
        exact .inr ⟨a, v, rfl, .inl ⟨kws, kk, ea, rfl, z2.symm⟩, q v H E.refl r⟩
    · cases e
  · cases e
theorem qe_ix {a b : Expr} {f1 f2 : Env → T D} (hu : X.A.units + 65 < cLine) (h1 : QP X tb W a f1) (h2 : QP X tb W b f2) (hs : PlainIx b := by exact fun _ _ => rfl) : QE X tb W (.Subscript a b pos) (e2 ixD f1 f2) := by
  obtain ⟨t1, p1, i1⟩ := h1.ex
  obtain ⟨t2, p2, i2⟩ := h2.ex
  exact ⟨_, pe_ix (ix_seq.or (ix_dic hu)) p1 p2 hs, imp2 r2_ix i1 i2⟩
/-- a slice's bound -/
structure QPo (X : Cx) (tb : Tb) (W : WX) (e : Option Expr) (f : Env → T (Option Int)) : Prop where
  ex : ∃ t, PO X e t ∧ ∀ g σ env H (Q : Option Int → Hp → Prop), ER (pgOf X tb) g σ env H →
    (f env).wp (fun i => ∀ H', Step (pgOf X tb) g.C H H' → Q i H') (XP (pgOf X tb) g σ H W) → t σ H Q
def oNo : Env → T (Option Int) := fun _ => .ret none
def isInt : D → Option Int
  | .int i => some i
  | _ => none
def oSo (f : Env → T D) : Env → T (Option Int) := fun env => (f env).bind fun x => (ofO (isInt x)).bind fun i => .ret (some i)
theorem qo_no : QPo X tb W none oNo := ⟨_, po_none, fun g σ env H Q E hw => hw H E.refl⟩
theorem qo_so {e : Expr} {f : Env → T D} (h : QP X tb W e f) : QPo X tb W (some e) (oSo f) := by
  obtain ⟨t, h1, h2⟩ := h.ex
  refine ⟨_, po_some h1, fun g σ env H Q E hw => ?_⟩
  unfold oSo at hw
  rw [T.wp_bind] at hw
  refine h2 g σ env H _ E (T.wp_mono (fun x q vx H1 s1 r1 => ?_) (fun _ z => z) hw)
  cases x with
  | int i => simp only [RepP, Rep] at r1; exact ⟨i, r1, q H1 s1⟩
  | _ => exact q.elim
def cutL {α : Type} (xs : List α) (lo hi : Option Int) : List α := (xs.drop (HT.sIx xs.length 0 lo)).take (HT.sIx xs.length xs.length hi - HT.sIx xs.length 0 lo)
def cutD (x : D) (lo hi : Option Int) : Option D := match x with
  | .lst xs => some (.lst (cutL xs lo hi))
  | .tup xs => some (.tup (cutL xs lo hi))
  | .str s => some (.str (cutL s lo hi))
  | _ => none
theorem RepL.cut {p : Pg} {C : Addr → Prop} {H : Hp} {ds : List D} {vs : List V} (h : RepL p C H ds vs) (lo hi : Option Int) : RepL p C H (cutL ds lo hi) (cutV vs lo hi) := by
  unfold cutL cutV
  rw [h.length]
  exact RepL.take _ (RepL.drop _ h)
theorem cutL_len {α : Type} (xs : List α) (lo hi : Option Int) : (cutL xs lo hi).length ≤ xs.length := by
  unfold cutL
  rw [List.length_take, List.length_drop]
  omega
def rSlD (K : PySem.W.Frag) : V → Option Int → Option Int → Hp → VK → Prop := fun x lo hi H Q => rSlL K x lo hi H Q ∨ rSlA K x lo hi H Q ∨ rSlS x lo hi H Q
def eCut (f : Env → T D) (l h : Env → T (Option Int)) : Env → T D := fun env => (f env).bind fun x => (l env).bind fun lo => (h env).bind fun hi => ofO (cutD x lo hi)
theorem qe_cut {e : Expr} {lo hi : Option Expr} {p2 : Pos} {f : Env → T D} {fl fh : Env → T (Option Int)} (h1 : QP X tb W e f) (hl : QPo X tb W lo fl) (hh : QPo X tb W hi fh) : QE X tb W (.Subscript e (.Slice lo hi none p2) pos) (eCut f fl fh) := by
  obtain ⟨t1, p1, i1⟩ := h1.ex
  obtain ⟨t2, p2', i2⟩ := hl.ex
  obtain ⟨t3, p3, i3⟩ := hh.ex
  refine ⟨_, pe_lq (pe_slice (r := rSlD X.K) (SlR.or sl_list (SlR.or sl_tupA sl_str)) p1 p2' p3), fun g σ env H Q E hw => ?_⟩
  unfold eCut at hw
  rw [T.wp_bind] at hw
  refine i1 g σ env H _ E (T.wp_mono (fun x q vx H1 s1 r1 => ?_) (fun _ z => z) hw)
  rw [T.wp_bind] at q
  have E1 := E.step s1
  refine i2 g σ env H1 _ E1 (T.wp_mono (fun a q H2 s2 => ?_) (wpStep s1) q)
  rw [T.wp_bind] at q
  have E2 := E1.step s2
  refine i3 g σ env H2 _ E2 (T.wp_mono (fun b q H3 s3 => ?_) (wpStep (s1.trans s2)) q)
  have E3 := E2.step s3
  have r3 := (r1.step E1 s2).step E2 s3
  have s13 := s1.trans (s2.trans s3)
  cases x with
  | lst xs =>
    obtain ⟨l, vs, rfl, _, ea, la, ra⟩ := r3
    refine .inl ⟨l, vs, rfl, .inl ea, fun p hp => ?_⟩
    exact E3.newL hp (d := .lst (cutL xs a b)) ⟨_, upd_same, Nat.le_trans (cutL_len _ _ _) la, (ra.cut a b).mv (E3.mv (E3.alloc hp))⟩ fun H2 s2 r2 => q _ H2 (s13.trans s2) r2
  | tup xs =>
    simp only [cutD, ofO, T.wp] at q
    simp only [RepP, Rep] at r3
    obtain ⟨l, vs, rfl, ea, la, ra⟩ := r3
    have fin : ∀ p, H3 p = none → LQ (Q (.ref p)) (upd H3 p (.tup (cutV vs a b))) := fun p hp => by
      have st := E3.alloc (o := .tup (cutV vs a b)) hp
      refine .done (q _ _ (s13.trans st) ?_)
      simp only [Rep]
      exact ⟨p, _, rfl, .of upd_same, Nat.le_trans (cutL_len _ _ _) la, (ra.cut a b).mv (E3.mv st)⟩
    refine .inr (.inl ⟨l, vs, rfl, ea, fun h => ?_, fun _ => fin⟩)
    rw [ra.length] at h
    have ec : cutL xs a b = xs := by
      unfold cutL
      rw [h.1, h.2]
      simp
    rw [ec] at q
    refine .done (q _ H3 s13 ?_)
    simp only [Rep]
    exact ⟨l, vs, rfl, ea, la, ra⟩
  | str s =>
    simp only [RepP, Rep] at r3
    obtain ⟨rfl, h1, h2⟩ := r3
    refine .inr (.inr ⟨_, rfl, by rw [sl_len]; exact h2, ?_⟩)
    have e : cutS (sl s) a b = sl (cutL s a b) := by
      unfold cutS cutL
      rw [sl_len]
    rw [e]
    refine .done (q _ H3 s13 (repStr (fun c hc => h1 c ?_) (Nat.le_trans (cutL_len _ _ _) h2)))
    unfold cutL at hc
    exact List.mem_of_mem_drop (List.mem_of_mem_take hc)
  | _ => exact q.elim
end
end MM

namespace MM
open PySem PySem.Spec L2

/-! ### readings from what is computed -/
def rdE (p : Pg) (W : WX) (f : Env → T D) : TE := fun σ H Q => ∃ g env, ER p g σ env H ∧ (f env).wp (fun d => ∀ v H', Step p g.C H H' → Rep p g.C H' d v → Q v H') (XP p g σ H W)
def rdT (p : Pg) (W : WX) (f : Env → T Bool) : TT := fun σ H Q => ∃ g env, ER p g σ env H ∧ (f env).wp (fun b => ∀ H', Step p g.C H H' → Q b H') (XP p g σ H W)
section
variable {X : Cx} {tb : Tb} {W : WX} {pos : Pos}
theorem QE.pe {e : Expr} {f : Env → T D} (h : QE X tb W e f) : PE X e (rdE (pgOf X tb) W f) := by
  obtain ⟨t, h1, h2⟩ := h.ex
  exact ⟨fun pins s σ H Q I ⟨g, env, E, hw⟩ => h1.run pins s σ H Q I (h2 g σ env H Q E hw)⟩
theorem QT.pt {e : Expr} {f : Env → T Bool} (h : QT X tb W e f) : PT X e (rdT (pgOf X tb) W f) := by
  obtain ⟨t, h1, h2⟩ := h.ex
  exact ⟨fun pins s σ H Q I ⟨g, env, E, hw⟩ => h1.run pins s σ H Q I (h2 g σ env H Q E hw)⟩

/-! ### displays -/
theorem ER.mvFloat {p : Pg} {g : Gh} {σ : St} {env : Env} {H : Hp} (E : ER p g σ env H) {a : Addr} {o : HO} (h : H a = none) : Mv H (upd H a o) := E.mv (E.alloc h)
theorem ER.free0 {p : Pg} {g : Gh} {σ : St} {env : Env} {H : Hp} (E : ER p g σ env H) {a : Addr} (h : H a = none) : ¬ g.N0 a ∧ ¬ Ob g.H0 a :=
  ⟨fun z => nOb h (E.n0 a z), fun z => nOb h (E.dom a z)⟩
theorem Step.free {p : Pg} {C : Addr → Prop} {H H1 : Hp} {a : Addr} (s : Step p C H H1) (h : H1 a = none) : ¬ Ob H a := fun z => nOb h (s.dom a z)
def eLst (fa : Env → T (List D)) : Env → T D := fun env => (fa env).bind fun xs => if xs.length ≤ 16777216 then .ret (.lst xs) else .bad
def eTup (fa : Env → T (List D)) : Env → T D := fun env => (fa env).bind fun xs => if xs.length ≤ 16777216 then .ret (.tup xs) else .bad
theorem qo_lst {es : List Expr} {fa : Env → T (List D)} (h : QA X tb W es fa) : QO X tb W (.List es pos) (eLst fa) := by
  obtain ⟨t, h1, h2⟩ := h.ex
  refine ⟨_, pe_lst h1, fun g σ env H Q E hw => ?_⟩
  unfold eLst at hw
  rw [T.wp_bind] at hw
  refine h2 g σ env H _ E (T.wp_mono (fun xs q vs H1 s1 r1 => ?_) (fun _ z => z) hw)
  split at q
  · rename_i hl
    have hz : xs.length ≤ sizeLine := by rw [size16]; exact hl
    refine ⟨by rw [r1.length]; exact hz, fun p hp => ?_⟩
    have E1 := E.step s1
    obtain ⟨n0, h0⟩ := E1.free0 hp
    refine q p _ (s1.trans (E1.alloc hp)) (E1.float hp) n0 h0 (s1.free hp) ⟨vs, upd_same, hz, r1.mv (E1.mvFloat hp)⟩
  · exact q.elim
theorem qe_tup {es : List Expr} {x1} {fa : Env → T (List D)} (h : QA X tb W es fa) : QE X tb W (.Tuple es x1 pos) (eTup fa) := by
  obtain ⟨t, h1, h2⟩ := h.ex
  refine ⟨_, pe_tup h1, fun g σ env H Q E hw => ?_⟩
  unfold eTup at hw
  rw [T.wp_bind] at hw
  refine h2 g σ env H _ E (T.wp_mono (fun xs q vs H1 s1 r1 => ?_) (fun _ z => z) hw)
  split at q
  · rename_i hl
    have hz : xs.length ≤ sizeLine := by rw [size16]; exact hl
    refine ⟨by rw [r1.length]; exact hz, fun p hp => ?_⟩
    have E1 := E.step s1
    have st := E1.alloc (o := .tup vs) hp
    refine q (.ref p) _ (s1.trans st) ?_
    simp only [Rep]
    exact ⟨p, vs, rfl, .of upd_same, hz, r1.mv (E1.mv st)⟩
  · exact q.elim

/-! ### what is walked -/
def ItR (p : Pg) (g : Gh) (σ : St) (env : Env) (H : Hp) (J : It) (ds : List D) : Prop := ∀ g2 σ2 env2 H2, ER p g2 σ2 env2 H2 → g2.C = g.C → Mv H H2 → ∀ i,
  (∀ d, ds[i]? = some d → J.go i H2 ∧ ∀ x H3, J.yld i H2 x H3 → Step p g.C H2 H3 ∧ Rep p g.C H3 d x) ∧ (ds.length ≤ i → J.stop i H2)
structure QI (X : Cx) (tb : Tb) (W : WX) (tg it : Expr) (f : Env → T (List D)) : Prop where
  ex : ∃ wi, PI X tg it wi ∧ ∀ g σ env H (R : It → Hp → Prop), ER (pgOf X tb) g σ env H →
    (f env).wp (fun ds => ∀ J H', Step (pgOf X tb) g.C H H' → ds.length ≤ sizeLine → ItR (pgOf X tb) g σ env H' J ds → R J H') (XP (pgOf X tb) g σ H W) → wi σ H R
def rdI (p : Pg) (W : WX) (f : Env → T (List D)) : TI := fun σ H R => ∃ g env, ER p g σ env H ∧ (f env).wp (fun ds => ∀ J H', Step p g.C H H' → ds.length ≤ sizeLine → ItR p g σ env H' J ds → R J H') (XP p g σ H W)
theorem QI.pi {tg it : Expr} {f : Env → T (List D)} (h : QI X tb W tg it f) : PI X tg it (rdI (pgOf X tb) W f) := by
  obtain ⟨t, h1, h2⟩ := h.ex
  exact ⟨fun pins s σ H Q I ⟨g, env, E, hw⟩ => h1.run pins s σ H Q I (h2 g σ env H Q E hw)⟩
theorem pi_or {tg it : Expr} {w1 w2 : TI} (h1 : PI X tg it w1) (h2 : PI X tg it w2) : PI X tg it (fun σ H R => w1 σ H R ∨ w2 σ H R) :=
  ⟨fun pins s σ H R I h => h.elim (h1.run pins s σ H R I) (h2.run pins s σ H R I)⟩
/-- three ways at once, by the value -/
def iSeq (K : PySem.W.Frag) (tl : TE) : TI := fun σ H R => tl σ H fun x H1 =>
  (∃ a, x = .ref a ∧ (∃ xs, SqL K H1 a xs) ∧ R (Itl K a) H1) ∨ (∃ a, x = .ref a ∧ (∃ xs, SqT K H1 a xs) ∧ R (Itt K a) H1) ∨ (∃ x1, x = .str x1 ∧ R (Its x1) H1) ∨ ∃ d o kvs, x = .ref d ∧ H1 d = some (.frz o (.dK kvs)) ∧ R (Itk d o kvs) H1
theorem pi_seq {tg l : Expr} {tl : TE} (hl : PE X l tl) : PI X tg l (iSeq X.K tl) := by
  refine ⟨fun pins s σ H R I h => ?_⟩
  refine thn (hl.run pins s σ H _ I h) fun v s1 ⟨x, H1, I1, r1, q1⟩ => ?_
  rcases q1 with ⟨a, e, ⟨xs, hq⟩, q⟩ | ⟨a, e, ⟨xs, hq⟩, q⟩ | ⟨x1, e, q⟩ | ⟨d, o, kvs, e, hd, q⟩
  · subst e
    cases r1
    obtain ⟨its, rv, p, hz⟩ := I1.list hq
    refine wpAny_pyIter_list p.isList ?_
    refine ⟨s1.heap.objs.size, [s1.heap.objs.size], _, _, H1, rfl, I1.kept (t' := s1.toks) fun b o e => Heap.get?_push_of_some _ e, turn_list a _, ⟨_, Heap.get?_push_size _ rfl, rfl, rfl⟩, fun b hb => ?_, q⟩
    have e : b = s1.heap.objs.size := by simpa using hb
    subst e
    exact I1.fpOk (Nat.le_refl _) (I1.hok.fresh (Nat.le_refl _))
  · subst e
    cases r1
    obtain ⟨its, rv, p, hz⟩ := I1.tuple hq
    refine wpAny_pyIter_tuple (show s1.heap.IsTuple a its.toArray from p) ?_
    refine ⟨s1.heap.objs.size, [s1.heap.objs.size], _, _, H1, rfl, I1.kept (t' := s1.toks) fun b o e => Heap.get?_push_of_some _ e, turn_tuple a _, ⟨_, Heap.get?_push_size _ rfl, rfl, rfl⟩, fun b hb => ?_, q⟩
    have e : b = s1.heap.objs.size := by simpa using hb
    subst e
    exact I1.fpOk (Nat.le_refl _) (I1.hok.fresh (Nat.le_refl _))
  · subst e
    obtain ⟨t, rfl⟩ := r1
    cases ha : x1.cps.all (· < 128)
    · exact wpAny_pyIter_wide ha (pi_one (tk := s1.toks) I1 _ (turn_str _ x1 t "str_iterator" (.inr rfl)) ⟨_, Heap.get?_push_size _ rfl, rfl, rfl⟩ q)
    · exact wpAny_pyIter_ascii ha (pi_one (tk := s1.toks) I1 _ (turn_str _ x1 t "str_ascii_iterator" (.inl rfl)) ⟨_, Heap.get?_push_size _ rfl, rfl, rfl⟩ q)
  · subst e
    cases r1
    obtain ⟨ns, at1, ed, es, ep, vs, dat, sz, kv, dm⟩ := I1.frzK hd
    refine iter_keys ns at1 ed dat (pi_one (tk := s1.toks) I1 _ (turn_keys _ dat) ⟨_, Heap.get?_push_size _ rfl, rfl, ?_⟩ q)
    rw [sz]
    all_goals rfl
def keysL : List (D × D) → List D
  | [] => []
  | (k, _) :: r => k :: keysL r
theorem keysL_len : ∀ {kvs : List (D × D)}, (keysL kvs).length = kvs.length
  | [] => rfl
  | (k, d) :: r => by simp [keysL, keysL_len (kvs := r)]
theorem keysL_get : ∀ {kvs : List (D × D)} {i : Nat} {k : D}, (keysL kvs)[i]? = some k → ∃ d, kvs[i]? = some (k, d)
  | [], _, _, h => by simp [keysL] at h
  | (k, d) :: r, 0, _, h => by simp [keysL] at h; subst h; exact ⟨d, rfl⟩
  | (k, d) :: r, i + 1, _, h => by
    obtain ⟨d', e⟩ := keysL_get (kvs := r) (i := i) (by simpa [keysL] using h)
    exact ⟨d', by simpa using e⟩
/-- the items of a sequence -/
def itemsD : D → Option (List D)
  | .lst xs => some xs
  | .tup xs => some xs
  | .str s => some (s.map fun c => .str [c])
  | .dic kvs => some (keysL kvs)
  | _ => none
def iSq (f : Env → T D) : Env → T (List D) := fun env => (f env).bind fun x => ofO (itemsD x)
theorem qi_seq {tg e : Expr} {f : Env → T D} (h : QE X tb W e f) : QI X tb W tg e (iSq f) := by
  refine ⟨_, pi_seq h.pe, fun g σ env H R E hw => ⟨g, env, E, ?_⟩⟩
  unfold iSq at hw
  rw [T.wp_bind] at hw
  refine T.wp_mono (fun x q v H1 s1 r1 => ?_) (fun _ z => z) hw
  cases x with
  | lst xs =>
    simp only [itemsD, ofO, T.wp] at q
    simp only [Rep] at r1
    obtain ⟨a, vs, rfl, ea, la, ra⟩ := r1
    refine .inl ⟨a, rfl, ⟨vs, .inl ea.rd⟩, q _ H1 s1 la fun g2 σ2 env2 H2 E2 hC m i => ?_⟩
    have e2 : SqL X.K H2 a vs := .inl (ea.mv m).rd
    refine ⟨fun d hd => ?_, fun hl => ⟨vs, e2, by rw [ra.length]; exact hl⟩⟩
    obtain ⟨v, hv, r⟩ := ra.get hd
    refine ⟨⟨vs, v, e2, hv⟩, fun x H3 ⟨eH, y⟩ => ?_⟩
    subst eH
    have := y vs e2
    rw [hv] at this
    cases this
    exact ⟨by rw [← hC]; exact E2.refl, r.mv m⟩
  | tup xs =>
    simp only [itemsD, ofO, T.wp] at q
    simp only [Rep] at r1
    obtain ⟨a, vs, rfl, ea, la, ra⟩ := r1
    refine .inr (.inl ⟨a, rfl, ⟨vs, ea⟩, q _ H1 s1 la fun g2 σ2 env2 H2 E2 hC m i => ?_⟩)
    have e2 : SqT X.K H2 a vs := SqT.mv m ea
    refine ⟨fun d hd => ?_, fun hl => ⟨vs, e2, by rw [ra.length]; exact hl⟩⟩
    obtain ⟨v, hv, r⟩ := ra.get hd
    refine ⟨⟨vs, v, e2, hv⟩, fun x H3 ⟨eH, y⟩ => ?_⟩
    subst eH
    have := y vs e2
    rw [hv] at this
    cases this
    exact ⟨by rw [← hC]; exact E2.refl, r.mv m⟩
  | str s =>
    simp only [itemsD, ofO, T.wp] at q
    simp only [Rep] at r1
    obtain ⟨rfl, h1, h2⟩ := r1
    refine .inr (.inr (.inl ⟨_, rfl, q _ H1 s1 (by simpa using h2) fun g2 σ2 env2 H2 E2 hC m i => ⟨fun d hd => ?_, fun hl => ?_⟩⟩))
    · rw [List.getElem?_map] at hd
      cases hc : s[i]? with
      | none => rw [hc] at hd; cases hd
      | some c =>
        rw [hc] at hd
        cases hd
        have hi : i < s.length := (List.getElem?_eq_some_iff.mp hc).1
        refine ⟨by show i < (sl s).cps.size; simpa [sl] using hi, fun x H3 ⟨eH, c', hc', ex⟩ => ?_⟩
        subst eH ex
        have : c' = c := by
          have e : s[i]? = some c' := by simpa [sl] using hc'
          rw [hc] at e; cases e; rfl
        subst this
        refine ⟨by rw [← hC]; exact E2.refl, repStr (s := [c']) (fun z hz => ?_) (by rw [size16]; simp)⟩
        have : z = c' := by simpa using hz
        subst this
        exact h1 z (List.mem_of_getElem? hc)
    · show (sl s).cps.size ≤ i
      simpa [sl] using hl
  | dic kvs =>
    simp only [itemsD, ofO, T.wp] at q
    simp only [Rep] at r1
    obtain ⟨a, kws, rfl, ⟨o, ea⟩, la, ra⟩ := r1
    refine .inr (.inr (.inr ⟨a, o, kws, rfl, ea, q _ H1 s1 (by rw [keysL_len]; exact la.1) fun g2 σ2 env2 H2 E2 hC m i => ⟨fun d hd => ?_, fun hl => ?_⟩⟩))
    · obtain ⟨dv, hdv⟩ := keysL_get hd
      obtain ⟨kk, v, e1, rk, rv⟩ := ra.get hdv
      refine ⟨⟨m.frz _ _ _ ea, (List.getElem?_eq_some_iff.mp e1).1⟩, fun x H3 ⟨eH, k', v', e2, ex⟩ => ?_⟩
      subst eH ex
      rw [e1] at e2
      cases e2
      exact ⟨by rw [← hC]; exact E2.refl, rk.mv m⟩
    · rw [keysL_len] at hl
      exact ⟨m.frz _ _ _ ea, by rw [ra.len]; exact hl⟩
  | _ => exact q.elim
/-! ranges -/
def upto : Nat → Int → List D
  | 0, _ => []
  | n + 1, i => .int i :: upto n (i + 1)
theorem upto_len : ∀ n i, (upto n i).length = n
  | 0, _ => rfl
  | n + 1, i => by simp [upto, upto_len n]
theorem upto_get : ∀ n i k, k < n → (upto n i)[k]? = some (.int (i + k))
  | 0, _, _, h => by omega
  | n + 1, i, 0, _ => by simp [upto]
  | n + 1, i, k + 1, h => by
    simp only [upto, List.getElem?_cons_succ]
    rw [upto_get n (i + 1) k (by omega)]
    congr 2
    omega
def bnd (i : Int) : Bool := decide (-16777216 ≤ i) && decide (i ≤ 16777216)
def rng1 (xs : List D) : Option (List D) := match xs with
  | [.int j] => if bnd j then some (upto j.toNat 0) else none
  | _ => none
def rng2 (xs : List D) : Option (List D) := match xs with
  | [.int i, .int j] => if bnd i && bnd j && decide (j - i ≤ 16777216) then some (upto (j - i).toNat i) else none
  | _ => none
def iArg (F : List D → Option (List D)) (fa : Env → T (List D)) : Env → T (List D) := fun env => (fa env).bind fun xs => ofO (F xs)
theorem itr_rng {p : Pg} {g : Gh} {σ : St} {env : Env} {H : Hp} {lo : Int} {n : Nat} : ItR p g σ env H (Itr lo n) (upto n lo) := fun g2 σ2 env2 H2 E2 hC m i => by
  refine ⟨fun d hd => ?_, fun hl => by rw [upto_len] at hl; exact hl⟩
  have hi : i < n := by
    have := (List.getElem?_eq_some_iff.mp hd).1
    rwa [upto_len] at this
  refine ⟨hi, fun x H3 ⟨eH, ex⟩ => ?_⟩
  subst eH ex
  rw [upto_get n lo i hi] at hd
  cases hd
  exact ⟨by rw [← hC]; exact E2.refl, repI⟩
theorem qi_range1 {tg a : Expr} {p : Pos} {fa : Env → T (List D)} (hg : Gl X "range") (hm : X.mg "range" = none) (h : QAP X tb W [a] fa) (hs : starEach [a] X.env = [(false, eval a X.env)] := by rfl) : QI X tb W tg (.Call (.Name "range" p) [a] [] pos) (iArg rng1 fa) := by
  obtain ⟨t, h1, h2⟩ := h.ex
  refine ⟨_, pi_range1 hg hm h1 hs, fun g σ env H R E hw => ?_⟩
  unfold iArg at hw
  rw [T.wp_bind] at hw
  refine h2 g σ env H _ E (T.wp_mono (fun xs q vs H1 s1 r1 => ?_) (fun _ z => z) hw)
  unfold rng1 at q
  split at q
  · rename_i j
    split at q
    · rename_i hb
      simp only [bnd, Bool.and_eq_true, decide_eq_true_eq] at hb
      obtain ⟨v, rfl, r⟩ := rep1 r1
      simp only [RepP, Rep] at r
      exact ⟨j, by rw [r], by omega, by omega, q _ H1 s1 (by rw [upto_len, size16]; omega) itr_rng⟩
    · exact q.elim
  · exact q.elim
theorem qi_range2 {tg a b : Expr} {p : Pos} {fa : Env → T (List D)} (hg : Gl X "range") (hm : X.mg "range" = none) (h : QAP X tb W [a, b] fa) (hs : starEach [a, b] X.env = [(false, eval a X.env), (false, eval b X.env)] := by rfl) (hs2 : starEach [b] X.env = [(false, eval b X.env)] := by rfl) :
    QI X tb W tg (.Call (.Name "range" p) [a, b] [] pos) (iArg rng2 fa) := by
  obtain ⟨t, h1, h2⟩ := h.ex
  refine ⟨_, pi_range2 hg hm h1 hs hs2, fun g σ env H R E hw => ?_⟩
  unfold iArg at hw
  rw [T.wp_bind] at hw
  refine h2 g σ env H _ E (T.wp_mono (fun xs q vs H1 s1 r1 => ?_) (fun _ z => z) hw)
  unfold rng2 at q
  split at q
  · rename_i i j
    split at q
    · rename_i hb
      simp only [bnd, Bool.and_eq_true, decide_eq_true_eq] at hb
      obtain ⟨v, w, rfl, r, r'⟩ := rep2 r1
      simp only [RepP, Rep] at r r'
      exact ⟨i, j, by rw [r, r'], by omega, q _ H1 s1 (by rw [upto_len, size16]; omega) itr_rng⟩
    · exact q.elim
  · exact q.elim
/-! zip -/
def zipL : List D → List D → List D
  | a :: as, b :: bs => .tup [a, b] :: zipL as bs
  | _, _ => []
theorem zipL_get : ∀ {as bs : List D} {i : Nat} {d : D}, (zipL as bs)[i]? = some d → ∃ a b, as[i]? = some a ∧ bs[i]? = some b ∧ d = .tup [a, b]
  | [], _, _, _, h => by simp [zipL] at h
  | _ :: _, [], _, _, h => by simp [zipL] at h
  | a :: as, b :: bs, 0, d, h => by
    simp [zipL] at h
    exact ⟨a, b, rfl, rfl, h.symm⟩
  | a :: as, b :: bs, i + 1, d, h => by
    simp only [zipL, List.getElem?_cons_succ] at h
    obtain ⟨x, y, h1, h2, h3⟩ := zipL_get h
    exact ⟨x, y, by simpa using h1, by simpa using h2, h3⟩
theorem zipL_len : ∀ {as bs : List D}, (zipL as bs).length = min as.length bs.length
  | [], _ => by simp [zipL]
  | _ :: _, [] => by simp [zipL]
  | a :: as, b :: bs => by simp only [zipL, List.length_cons, zipL_len (as := as)]; omega
def zipD (xs : List D) : Option (List D) := match xs with
  | [.lst a, .lst b] => some (zipL a b)
  | [.tup a, .tup b] => some (zipL a b)
  | _ => none
theorem ra2 {p : Pg} {C : Addr → Prop} {H : Hp} {x y : D} {vs : List V} (h : RepL p C H [x, y] vs) : ∃ v w, vs = [v, w] ∧ Rep p C H x v ∧ Rep p C H y w := by
  simp only [RepL] at h
  obtain ⟨v, ws, rfl, r, w, us, rfl, r', rfl⟩ := h
  exact ⟨v, w, rfl, r, r'⟩
theorem pair_new {p : Pg} {g2 : Gh} {C : Addr → Prop} (hC : g2.C = C) {σ2 : St} {env2 : Env} {H2 : Hp} (E2 : ER p g2 σ2 env2 H2) {t : Addr} {x y : V} {a b : D} (ht : H2 t = none) (ra : Rep p C H2 a x) (rb : Rep p C H2 b y) :
    Step p C H2 (upd H2 t (.tup [x, y])) ∧ Rep p C (upd H2 t (.tup [x, y])) (.tup [a, b]) (.ref t) := by
  subst hC
  have st := E2.alloc (o := .tup [x, y]) ht
  refine ⟨st, ?_⟩
  simp only [Rep]
  exact ⟨t, _, rfl, .of upd_same, by rw [size16]; simp, .cons (ra.mv (E2.mv st)) (.one (rb.mv (E2.mv st)))⟩
theorem qi_zip {e e2 : Expr} {p tpos : Pos} {elts : List Expr} {kk : Nat} {fa : Env → T (List D)} (hg : Gl X "zip") (hm : X.mg "zip" = none) (h : QA X tb W [e, e2] fa)
    (hs : starEach [e, e2] X.env = (false, eval e X.env) :: starEach [e2] X.env := by rfl) (hpl : (backTo pos (starEach [e2] X.env)).any (·.1) = false := by rfl) :
    QI X tb W (.Tuple elts kk tpos) (.Call (.Name "zip" p) [e, e2] [] pos) (iArg zipD fa) := by
  obtain ⟨t, h1, h2⟩ := h.ex
  refine ⟨_, RZ.pi_zipA hg hm h1 hs hpl, fun g σ env H R E hw => ?_⟩
  unfold iArg at hw
  rw [T.wp_bind] at hw
  refine h2 g σ env H _ E (T.wp_mono (fun xs q vs H1 s1 r1 => ?_) (fun _ z => z) hw)
  unfold zipD at q
  split at q
  · rename_i as bs
    obtain ⟨v, w, rfl, r, r'⟩ := ra2 r1
    simp only [Rep] at r r'
    obtain ⟨a, vs, rfl, ea, la, ra⟩ := r
    obtain ⟨b, ws, rfl, eb, lb, rb⟩ := r'
    refine ⟨a, b, vs, ws, rfl, .inl ⟨.inl ea.rd, .inl eb.rd, q _ H1 s1 (by rw [zipL_len]; omega) fun g2 σ2 env2 H2 E2 hC m i => ?_⟩⟩
    have e1 : SqL X.K H2 a vs := .inl (ea.mv m).rd
    have e2 : SqL X.K H2 b ws := .inl (eb.mv m).rd
    refine ⟨fun d hd => ?_, fun hl => ⟨vs, ws, e1, e2, by rw [zipL_len] at hl; rw [ra.length, rb.length]; omega⟩⟩
    obtain ⟨x, y, hx, hy, rfl⟩ := zipL_get hd
    obtain ⟨vx, hvx, rx⟩ := ra.get hx
    obtain ⟨vy, hvy, ry⟩ := rb.get hy
    refine ⟨⟨vs, ws, vx, vy, e1, e2, hvx, hvy⟩, fun z H3 ⟨t, x', y', ez, ht, eH, q1, q2⟩ => ?_⟩
    subst ez eH
    have h1 := q1 vs e1
    rw [hvx] at h1; cases h1
    have h2 := q2 ws e2
    rw [hvy] at h2; cases h2
    exact pair_new hC E2 ht (rx.mv m) (ry.mv m)
  · rename_i as bs
    obtain ⟨v, w, rfl, r, r'⟩ := ra2 r1
    simp only [Rep] at r r'
    obtain ⟨a, vs, rfl, ea, la, ra⟩ := r
    obtain ⟨b, ws, rfl, eb, lb, rb⟩ := r'
    refine ⟨a, b, vs, ws, rfl, .inr ⟨ea, eb, q _ H1 s1 (by rw [zipL_len]; omega) fun g2 σ2 env2 H2 E2 hC m i => ?_⟩⟩
    have e1 := SqT.mv m ea
    have e2 := SqT.mv m eb
    refine ⟨fun d hd => ?_, fun hl => ⟨vs, ws, e1, e2, by rw [zipL_len] at hl; rw [ra.length, rb.length]; omega⟩⟩
    obtain ⟨x, y, hx, hy, rfl⟩ := zipL_get hd
    obtain ⟨vx, hvx, rx⟩ := ra.get hx
    obtain ⟨vy, hvy, ry⟩ := rb.get hy
    refine ⟨⟨vs, ws, vx, vy, e1, e2, hvx, hvy⟩, fun z H3 ⟨t, x', y', ez, ht, eH, q1, q2⟩ => ?_⟩
    subst ez eH
    have h1 := q1 vs e1
    rw [hvx] at h1; cases h1
    have h2 := q2 ws e2
    rw [hvy] at h2; cases h2
    exact pair_new hC E2 ht (rx.mv m) (ry.mv m)
  · exact q.elim

/-! ### targets -/
def isOwn : Option Sl → Bool
  | some (.own _) => true
  | some (.own2 _) => true
  | _ => false
theorem isOwn_set {env : Env} {i : Nat} {d : D} : isOwn (env.set i (.frz d))[i]? = false := by
  cases h : (env.set i (Sl.frz d))[i]? with
  | none => rfl
  | some x => rw [set_self_eq h]; rfl
structure QG (X : Cx) (tg : Expr) (is : List Nat) (f : D → Env → Option Env) : Prop where
  ex : ∃ gt, PG X tg gt ∧ ∀ (p : Pg) g σ env H (Q : St → Hp → Prop) d v env', p.K = X.K → ER p g σ env H → Rep p g.C H d v → f d env = some env' →
    (∀ σ', ER p g σ' env' H → SStep H H → (∀ j, j ∉ is → σ'[j]? = σ[j]?) → Q σ' H) → gt v σ H Q
  st : ∀ d env env', f d env = some env' → env'.length = env.length ∧ (∀ j, j ∉ is → env'[j]? = env[j]?) ∧ ∀ j, j ∈ is → isOwn env'[j]? = false
def rdG (K : PySem.W.Frag) (is : List Nat) (f : D → Env → Option Env) : TG := fun v σ H Q => ∃ (p : Pg) (g : Gh) (env : Env) (d : D) (env' : Env), p.K = K ∧ ER p g σ env H ∧ Rep p g.C H d v ∧ f d env = some env' ∧
    ∀ σ', ER p g σ' env' H → SStep H H → (∀ j, j ∉ is → σ'[j]? = σ[j]?) → Q σ' H
theorem QG.pg {tg : Expr} {is : List Nat} {f : D → Env → Option Env} (h : QG X tg is f) : PG X tg (rdG X.K is f) := by
  obtain ⟨t, h1, h2⟩ := h.ex
  exact ⟨fun pins s σ H v u Q I r ⟨p, g, env, d, env', hK, E, rp, hf, q⟩ => h1.run pins s σ H v u Q I r (h2 p g σ env H Q d v env' hK E rp hf q)⟩
def sName (i : Nat) : D → Env → Option Env := fun d env => if i < env.length then some (env.set i (.frz d)) else none
theorem SStep.setF {H : Hp} : SStep H H := .refl
theorem qg_name {i : Nat} {x : Str} (hN : X.N.Nodup) (hi : X.N[i]? = some x := by rfl) (hx : Loc X.env.scope x := by first | exact Or.inl rfl | exact Or.inr rfl) (hf : X.fn x = true ∨ X.env.scope.names.lookup x = some .local := by first | exact .inl rfl | exact .inr rfl | assumption) : QG X (.Name x pos) [i] (sName i) where
  ex := by
    refine ⟨_, pg_name hN hi hx hf, fun p g σ env H Q d v env' hK E r hf q => ?_⟩
    unfold sName at hf
    split at hf
    · rename_i hl
      cases hf
      exact q _ (E.setF hl r) SStep.setF fun j hj => by rw [List.getElem?_set_ne (fun z => hj (by simp [z]))]
    · cases hf
  st := fun d env env' hf => by
    unfold sName at hf
    split at hf
    · cases hf
      refine ⟨by simp, fun j hj => by rw [List.getElem?_set_ne (fun z => hj (by simp [z]))], fun j hj => ?_⟩
      have : j = i := by simpa using hj
      subst this
      exact isOwn_set
    · cases hf
def gNames : List Nat → TGs
  | [] => gNil
  | i :: is => gCons (gName i) (gNames is)
def setAll : List Nat → List D → Env → Option Env
  | [], [], env => some env
  | i :: is, d :: ds, env => if i < env.length then setAll is ds (env.set i (.frz d)) else none
  | _, _, _ => none
theorem setAll_ok {p : Pg} {g : Gh} {H : Hp} {Q : St → Hp → Prop} : ∀ {is : List Nat} {ds : List D} {vs : List V} {σ : St} {env env' : Env}, ER p g σ env H → RepL p g.C H ds vs → setAll is ds env = some env' →
    (∀ σ', ER p g σ' env' H → SStep H H → (∀ j, j ∉ is → σ'[j]? = σ[j]?) → Q σ' H) → gNames is vs σ H Q
  | [], [], vs, σ, env, env', E, r, e, q => by
    simp only [RepL] at r
    subst r
    cases e
    exact ⟨rfl, q σ E SStep.refl fun _ _ => rfl⟩
  | i :: is, d :: ds, vs, σ, env, env', E, r, e, q => by
    simp only [RepL] at r
    obtain ⟨v, ws, rfl, r1, r2⟩ := r
    simp only [setAll] at e
    split at e
    · rename_i hl
      have E1 := E.setF hl r1
      have s1 : SStep H H := SStep.setF
      refine ⟨v, ws, rfl, setAll_ok E1 (r2.mv s1.mv) e fun σ' E' s' h' => q σ' E' (s1.trans s') fun j hj => ?_⟩
      simp only [List.mem_cons, not_or] at hj
      rw [h' j hj.2, List.getElem?_set_ne (fun z => hj.1 z.symm)]
    · cases e
  | [], _ :: _, _, _, _, _, _, _, e, _ => by cases e
  | _ :: _, [], _, _, _, _, _, _, e, _ => by cases e
theorem setAll_st : ∀ {is : List Nat} {ds : List D} {env env' : Env}, setAll is ds env = some env' → env'.length = env.length ∧ (∀ j, j ∉ is → env'[j]? = env[j]?) ∧ ∀ j, j ∈ is → isOwn env'[j]? = false
  | [], [], env, env', e => by cases e; exact ⟨rfl, fun _ _ => rfl, fun _ h => by cases h⟩
  | i :: is, d :: ds, env, env', e => by
    simp only [setAll] at e
    split at e
    · obtain ⟨h1, h2, h3⟩ := setAll_st e
      refine ⟨by rw [h1]; simp, fun j hj => ?_, fun j hj => ?_⟩
      · simp only [List.mem_cons, not_or] at hj
        rw [h2 j hj.2, List.getElem?_set_ne (fun z => hj.1 z.symm)]
      · by_cases hm : j ∈ is
        · exact h3 j hm
        · have : j = i := by
            rcases List.mem_cons.mp hj with z | z
            · exact z
            · exact absurd z hm
          subst this
          rw [h2 j hm]
          exact isOwn_set
    · cases e
  | [], _ :: _, _, _, e => by cases e
  | _ :: _, [], _, _, e => by cases e
def sTup (is : List Nat) : D → Env → Option Env := fun d env => match d with
  | .tup ds => setAll is ds env
  | _ => none
theorem setAll_len : ∀ {is : List Nat} {ds : List D} {env env' : Env}, setAll is ds env = some env' → ds.length = is.length
  | [], [], _, _, _ => rfl
  | i :: is, d :: ds, env, env', e => by
    simp only [setAll] at e
    split at e
    · simp [setAll_len e]
    · cases e
  | [], _ :: _, _, _, e => by cases e
  | _ :: _, [], _, _, e => by cases e
theorem qg_tup {es : List Expr} {k n : Nat} (is : List Nat) (hc : X.calm = true) (h : PGs X es (gNames is)) (hl : is.length = n := by rfl) (hn : (assignEach es X.env).length = n := by rfl) (hst : (assignEach es X.env).findIdx? (·.1) = none := by rfl) : QG X (.Tuple es k pos) is (sTup is) where
  ex := by
    refine ⟨_, pg_tup (n := n) hc h hn hst, fun p g σ env H Q d v env' hK E r hf q => ?_⟩
    cases d with
    | tup ds =>
      simp only [Rep] at r
      obtain ⟨a, vs, rfl, ea, la, ra⟩ := r
      rw [hK] at ea
      exact ⟨a, vs, rfl, ea, by rw [ra.length, setAll_len (show setAll is ds env = some env' from hf), hl], setAll_ok E ra hf q⟩
    | _ => cases hf
  st := fun d env env' hf => by
    cases d with
    | tup ds => exact setAll_st (show setAll is ds env = some env' from hf)
    | _ => cases hf
/-- targets within targets -/
structure QGs (X : Cx) (es : List Expr) (is : List Nat) (n : Nat) (f : List D → Env → Option Env) : Prop where
  ex : ∃ gt, PGs X es gt ∧ ∀ (p : Pg) g σ env H (Q : St → Hp → Prop) ds vs env', p.K = X.K → ER p g σ env H → RepL p g.C H ds vs → f ds env = some env' →
    (∀ σ', ER p g σ' env' H → SStep H H → (∀ j, j ∉ is → σ'[j]? = σ[j]?) → Q σ' H) → gt vs σ H Q
  st : ∀ ds env env', f ds env = some env' → ds.length = n ∧ env'.length = env.length ∧ (∀ j, j ∉ is → env'[j]? = env[j]?) ∧ ∀ j, j ∈ is → isOwn env'[j]? = false
def sgNil : List D → Env → Option Env
  | [], env => some env
  | _, _ => none
def sgCons (f : D → Env → Option Env) (h : List D → Env → Option Env) : List D → Env → Option Env
  | d :: ds, env => (f d env).bind fun e => h ds e
  | [], _ => none
def sTupN (h : List D → Env → Option Env) : D → Env → Option Env
  | .tup ds, env => h ds env
  | _, _ => none
theorem qgs_nil : QGs X [] [] 0 sgNil where
  ex := ⟨_, pgs_nil, fun p g σ env H Q ds vs env' _ E r hf q => by
    cases ds with
    | nil =>
      simp only [RepL] at r
      subst r
      cases hf
      exact ⟨rfl, q σ E .refl fun _ _ => rfl⟩
    | cons => cases hf⟩
  st := fun ds env env' hf => by
    cases ds with
    | nil => cases hf; exact ⟨rfl, rfl, fun _ _ => rfl, fun _ h => absurd h List.not_mem_nil⟩
    | cons => cases hf
theorem qgs_cons {tg : Expr} {es : List Expr} {is js : List Nat} {n : Nat} {f : D → Env → Option Env} {h : List D → Env → Option Env} (h1 : QG X tg is f) (h2 : QGs X es js n h) (hs : (assignEach (tg :: es) X.env).map (·.2) = assign tg X.env :: (assignEach es X.env).map (·.2) := by rfl) : QGs X (tg :: es) (is ++ js) (n + 1) (sgCons f h) where
  ex := by
    obtain ⟨t1, a1, b1⟩ := h1.ex
    obtain ⟨t2, a2, b2⟩ := h2.ex
    refine ⟨_, pgs_cons a1 a2 hs, fun p g σ env H Q ds vs env' hK E r hf q => ?_⟩
    cases ds with
    | nil => cases hf
    | cons d ds =>
      simp only [RepL] at r
      obtain ⟨v, ws, rfl, r1, r2⟩ := r
      simp only [sgCons, Option.bind_eq_some_iff] at hf
      obtain ⟨e1, f1, f2⟩ := hf
      refine ⟨v, ws, rfl, b1 p g σ env H _ d v e1 hK E r1 f1 fun σ1 E1 s1 k1 => ?_⟩
      refine b2 p g σ1 e1 H _ ds ws env' hK E1 r2 f2 fun σ2 E2 s2 k2 => q σ2 E2 .refl fun j hj => ?_
      simp only [List.mem_append, not_or] at hj
      rw [k2 j hj.2, k1 j hj.1]
  st := fun ds env env' hf => by
    cases ds with
    | nil => cases hf
    | cons d ds =>
      simp only [sgCons, Option.bind_eq_some_iff] at hf
      obtain ⟨e1, f1, f2⟩ := hf
      obtain ⟨l1, m1, n1⟩ := h1.st _ _ _ f1
      obtain ⟨l0, l2, m2, n2⟩ := h2.st _ _ _ f2
      refine ⟨by simp [l0], by rw [l2, l1], fun j hj => ?_, fun j hj => ?_⟩
      · simp only [List.mem_append, not_or] at hj
        rw [m2 j hj.2, m1 j hj.1]
      · by_cases z : j ∈ js
        · exact n2 j z
        · rw [m2 j z]
          exact n1 j ((List.mem_append.mp hj).resolve_right z)
theorem qg_tupN {es : List Expr} {k n : Nat} {is : List Nat} {h : List D → Env → Option Env} (hc : X.calm = true) (g : QGs X es is n h) (hn : (assignEach es X.env).length = n := by rfl) (hst : (assignEach es X.env).findIdx? (·.1) = none := by rfl) : QG X (.Tuple es k pos) is (sTupN h) where
  ex := by
    obtain ⟨gt, a1, b1⟩ := g.ex
    refine ⟨_, pg_tup (n := n) hc a1 hn hst, fun p g' σ env H Q d v env' hK E r hf q => ?_⟩
    cases d with
    | tup ds =>
      simp only [Rep] at r
      obtain ⟨a, vs, rfl, ea, la, ra⟩ := r
      rw [hK] at ea
      exact ⟨a, vs, rfl, ea, by rw [ra.length, (g.st _ _ _ (show h ds env = some env' from hf)).1], b1 p g' σ env H Q ds vs env' hK E ra hf q⟩
    | _ => cases hf
  st := fun d env env' hf => by
    cases d with
    | tup ds => exact (g.st _ _ _ (show h ds env = some env' from hf)).2
    | _ => cases hf
end
end MM

namespace MM
open PySem PySem.Spec L2

namespace T
def noX {α : Type} : T α → T α
  | .ret a => .ret a
  | .exc _ => .bad
  | .bad => .bad
  | .draw n k => .draw n fun i => (k i).noX
theorem wp_noX {α : Type} {Q : α → Prop} {E E' : Ex → Prop} : ∀ {t : T α}, t.noX.wp Q E → t.wp Q E'
  | .ret a, h => h
  | .exc e, h => h.elim
  | .bad, h => h
  | .draw n k, h => ⟨h.1, fun i hi => wp_noX (h.2 i hi)⟩
end T
def WF : WX := fun _ _ _ _ => False
def compL (tgt : D → Env → Option Env) (cond : Env → T Bool) (elt : Env → T D) (env0 : Env) : List D → T (List D)
  | [] => .ret []
  | d :: ds => (ofO (tgt d env0)).bind fun e => (cond e).noX.bind fun b => if b then (elt e).noX.bind fun y => (compL tgt cond elt env0 ds).bind fun ys => .ret (y :: ys) else compL tgt cond elt env0 ds
def wipeE (env : Env) : List Nat → Env
  | [] => env
  | v :: vs => (wipeE env vs).set v .no
def eComp (it : Env → T (List D)) (vs : List Nat) (tgt : D → Env → Option Env) (cond : Env → T Bool) (elt : Env → T D) : Env → T D := fun env =>
  (it env).bind fun ds => (compL tgt cond elt (wipeE env vs) ds).bind fun ys => .ret (.lst ys)
def tYesB : Env → T Bool := fun _ => .ret true

theorem wipeE_len {env : Env} : ∀ {vs : List Nat}, (wipeE env vs).length = env.length
  | [] => rfl
  | v :: vs => by simp [wipeE, wipeE_len]
theorem wipeE_get {env : Env} {j : Nat} : ∀ {vs : List Nat}, j ∉ vs → (wipeE env vs)[j]? = env[j]?
  | [], _ => rfl
  | v :: vs, h => by
    simp only [List.mem_cons, not_or] at h
    simp only [wipeE]
    rw [List.getElem?_set_ne (fun z => h.1 z.symm), wipeE_get h.2]
theorem wipe_get {σ : St} {j : Nat} : ∀ {vs : List Nat}, j ∉ vs → (wipe σ vs)[j]? = σ[j]?
  | [], _ => rfl
  | v :: vs, h => by
    simp only [List.mem_cons, not_or] at h
    simp only [wipe]
    rw [List.getElem?_set_ne (fun z => h.1 z.symm), wipe_get h.2]
theorem wipe_in {σ : St} {j : Nat} : ∀ {vs : List Nat}, j ∈ vs → j < σ.length → (wipe σ vs)[j]? = some none
  | v :: vs, h, hl => by
    simp only [wipe]
    by_cases hj : j = v
    · subst hj; rw [List.getElem?_set_self (by rw [wipe_length]; exact hl)]
    · rw [List.getElem?_set_ne (fun z => hj z.symm)]
      rcases List.mem_cons.mp h with z | z
      · exact absurd z hj
      · exact wipe_in z hl
theorem wipe_ext {σ τ : St} {vs : List Nat} (hl : σ.length = τ.length) (h : ∀ j, j ∉ vs → σ[j]? = τ[j]?) : wipe σ vs = wipe τ vs := by
  apply List.ext_getElem?
  intro j
  by_cases hj : j ∈ vs
  · by_cases hb : j < σ.length
    · rw [wipe_in hj hb, wipe_in hj (by rw [← hl]; exact hb)]
    · rw [List.getElem?_eq_none (by rw [wipe_length]; omega), List.getElem?_eq_none (by rw [wipe_length]; omega)]
  · rw [wipe_get hj, wipe_get hj, h j hj]
section
variable {p : Pg} {g : Gh} {σ : St} {env : Env} {H : Hp}
theorem ER.wipe (E : ER p g σ env H) : ∀ vs : List Nat, ER p g (wipe σ vs) (wipeE env vs) H
  | [] => E
  | v :: vs => (ER.wipe E vs).setN
/-- what floats is written -/
theorem ER.writeFl {a : Addr} {u o : HO} (E : ER p (g.fl a) σ env H) (h : H a = some u) (mu : Md u) (mo : Md o) (nc : ¬ g.C a) (h0 : ¬ Ob g.H0 a) :
    ER p (g.fl a) σ env (upd H a o) ∧ Mv H (upd H a o) ∧ (∀ H1, Step p g.C H1 H → ¬ Ob H1 a → Step p g.C H1 (upd H a o)) := by
  have oth : ∀ b v, H b = some v → ¬ Md v → upd H a o b = some v := fun b v hv n => by
    rw [upd_ne]
    · exact hv
    · rintro rfl
      rw [h] at hv; cases hv
      exact n mu
  have mv : Mv H (upd H a o) := ⟨fun b xs hb => oth b _ hb fun z => z, fun b u w hb => oth b _ hb fun z => z⟩
  have dm : ∀ b, Ob H b → Ob (upd H a o) b := fun b ⟨u, e, t⟩ => by
    by_cases z : b = a
    · subst z; exact ⟨_, upd_same, mo.tb⟩
    · exact ⟨u, by rw [upd_ne z]; exact e, t⟩
  have cupk : ∀ b, g.C b → CupAt (upd H a o) b := fun b c => by
    obtain ⟨x, y, e, q⟩ := E.cup b c
    refine ⟨x, y, ?_, q⟩
    rw [upd_ne (show b ≠ a from fun z => nc (by rw [← z]; exact c))]; exact e
  have tabk := tabs_oth E.tabs oth
  have ne : ∀ i b, OwnAt σ env H i b → upd H a o b = H b := fun i b hb => upd_ne fun z => (E.fresh i b hb).1 (.inr z)
  refine ⟨⟨E.len, fun b u hu n t => ?_, fun b hb => dm b (E.dom b hb), cupk, tabk, fun b z => dm b (E.n0 b z), fun j x hx => (E.slot j x hx).mv mv hx (ne j), fun i j b h1 h2 => E.uniq i j b ((OwnAt.same E (ne i)).mp h1) ((OwnAt.same E (ne j)).mp h2), fun i b hb => E.fresh i b ((OwnAt.same E (ne i)).mp hb), E.th⟩, mv, fun H1 s hf => ⟨fun b u hu n t => ?_, cupk, tabk, fun b hb => dm b (s.dom b hb)⟩⟩
  · have z : b ≠ a := fun z => h0 ⟨u, by rw [← z]; exact hu, t⟩
    rw [upd_ne z]; exact E.keep b u hu n t
  · have z : b ≠ a := fun z => hf ⟨u, by rw [← z]; exact hu, t⟩
    rw [upd_ne z]; exact s.grow b u hu n t
end
section
variable {X : Cx} {tb : Tb} {W : WX} {pos : Pos}
theorem imp_lc {itf : Env → T (List D)} {vs is : List Nat} {tgt : D → Env → Option Env} {cond : Env → T Bool} {elt : Env → T D} {K : PySem.W.Frag} {p : Pg} (hK : p.K = K)
    (hst : ∀ d env env', tgt d env = some env' → env'.length = env.length ∧ (∀ j, j ∉ is → env'[j]? = env[j]?) ∧ ∀ j, j ∈ is → isOwn env'[j]? = false) (hsub : ∀ j ∈ is, j ∈ vs) :
    ImpO p W (tLc (rdI p W itf) (rdG K is tgt) (rdT p WF cond) (rdE p WF elt) vs) (eComp itf vs tgt cond elt) := fun g σ env H Q E hw => by
  unfold eComp at hw
  rw [T.wp_bind] at hw
  refine ⟨g, env, E, T.wp_mono (fun ds q J H1 s1 hds hJ => ?_) (fun _ z => z) hw⟩
  rw [T.wp_bind] at q
  intro a ha
  have E1 := E.step s1
  obtain ⟨n0, h0⟩ := E1.free0 ha
  have nc : ¬ g.C a := fun c => n0 (g.hC a c)
  refine ⟨fun i m H2 => i + m = ds.length ∧ ∃ acc vacc, H2 a = some (.lst vacc) ∧ acc.length ≤ i ∧ RepL p g.C H2 acc vacc ∧ ER p (g.fl a) σ env H2 ∧ Step p g.C H1 H2 ∧
    (compL tgt cond elt (wipeE env vs) (ds.drop i)).wp (fun ys => ∀ a' H', Step p g.C H H' → ER p (g.fl a') σ env H' → ¬ g.N0 a' → ¬ Ob g.H0 a' → ¬ Ob H a' → OwnRep p g.C H' (.lst (acc ++ ys)) a' → Q (.ref a') H') (XP p g σ H W), ?_, ?_⟩
  · exact ⟨ds.length, by omega, [], [], upd_same, Nat.le_refl _, .nil, E1.float ha, E1.alloc ha, by simp only [List.drop_zero, List.nil_append]; exact q⟩
  rintro i m H2 ⟨him, acc, vacc, hD, hacc, racc, E2, s12, hq⟩
  have mvJ : Mv H1 H2 := s12.mv E1.cup
  obtain ⟨hgo, hstop⟩ := hJ (g.fl a) σ env H2 E2 rfl mvJ i
  by_cases hi : i < ds.length
  rotate_left
  · refine .inl ⟨hstop (by omega), ?_⟩
    rw [List.drop_of_length_le (by omega)] at hq
    simp only [compL, T.wp, List.append_nil] at hq
    exact hq a H2 (s1.trans s12) E2 n0 h0 (s1.free ha) ⟨vacc, hD, by omega, racc⟩
  have hdi : ds[i]? = some ds[i] := List.getElem?_eq_getElem hi
  obtain ⟨hgo1, hy⟩ := hgo _ hdi
  refine .inr ⟨hgo1, fun H' => ∃ m', m' < m ∧ _, fun H' h => h, fun x H3 hyl => ?_⟩
  obtain ⟨s23, rx⟩ := hy x H3 hyl
  have E3 := E2.step (g := g.fl a) s23
  rw [List.drop_eq_getElem_cons hi] at hq
  simp only [compL] at hq
  rw [T.wp_bind] at hq
  cases ht : tgt ds[i] (wipeE env vs) with
  | none => rw [ht] at hq; exact hq.elim
  | some env' =>
    rw [ht] at hq
    simp only [ofO, T.wp] at hq
    obtain ⟨el, e1, e2⟩ := hst _ _ _ ht
    refine ⟨p, g.fl a, wipeE env vs, ds[i], env', hK, E3.wipe vs, rx, ht, fun σ' E' S' hj => ?_⟩
    have hl' : σ'.length = (wipe σ vs).length := by rw [E'.len, el, wipeE_len, wipe_length, E3.len]
    have hsig : ∀ j, j ∉ vs → σ'[j]? = σ[j]? := fun j hjv => by rw [hj j (fun z => hjv (hsub j z)), wipe_get hjv]
    refine ⟨wipe_ext (by rw [hl', wipe_length]) hsig, g.fl a, env', E', ?_⟩
    rw [T.wp_bind] at hq
    refine T.wp_mono (fun b hq H4 s34 => ?_) (fun _ z => z) (T.wp_noX hq)
    have E4 := E'.step s34
    have E4' := E3.step (g := g.fl a) s34
    have s14 : Step p g.C H1 H4 := s12.trans (s23.trans s34)
    have hD4 : H4 a = some (.lst vacc) := s34.grow a _ (s23.grow a _ hD nc (fun _ => by simp)) nc (fun _ => by simp)
    have racc4 : RepL p g.C H4 acc vacc := (racc.mv (E2.mv s23)).mv (E3.mv s34)
    cases b with
    | false =>
      rw [if_neg (by simp)] at hq
      refine iteF ?_
      exact ⟨m - 1, by omega, by omega, acc, vacc, hD4, by omega, racc4, E4', s14, hq⟩
    | true =>
      rw [if_pos rfl] at hq
      refine iteT ?_
      refine ⟨g.fl a, env', E4, ?_⟩
      rw [T.wp_bind] at hq
      refine T.wp_mono (fun y hq v H5 s45 ry => ?_) (fun _ z => z) (T.wp_noX hq)
      rw [T.wp_bind] at hq
      have E5 := E4'.step (g := g.fl a) s45
      have hD5 : H5 a = some (.lst vacc) := s45.grow a _ hD4 nc (fun _ => by simp)
      have racc5 := racc4.mv (E4'.mv s45)
      have hvl : vacc.length = acc.length := racc4.length
      refine ⟨vacc, hD5, by rw [hvl]; omega, m - 1, by omega, by omega, acc ++ [y], vacc ++ [v], upd_same, by simp; omega, ?_⟩
      obtain ⟨w1, w2, w3⟩ := ER.writeFl (o := .lst (vacc ++ [v])) E5 hD5 trivial trivial nc h0
      refine ⟨(racc5.app (.one ry)).mv w2, w1, w3 H1 (s14.trans s45) (nOb ha), T.wp_mono (fun ys h => ?_) (fun _ z => z) hq⟩
      intro a' H' s' E'' n' h' hf' o'
      rw [List.append_assoc] at o'
      exact h a' H' s' E'' n' h' hf' o'
/-- a clause's tests -/
structure QTs (X : Cx) (tb : Tb) (W : WX) (ifs : List Expr) (f : Env → T Bool) : Prop where
  pts : PTs X ifs (rdT (pgOf X tb) W f)
theorem qts_nil : QTs X tb W [] tYesB := ⟨⟨fun pins s σ H Q I ⟨g, env, E, hw⟩ => pts_nil.run pins s σ H Q I (hw H E.refl)⟩⟩
theorem qts_one {c : Expr} {f : Env → T Bool} (h : QT X tb W c f) : QTs X tb W [c] f := ⟨pts_one h.pt⟩
abbrev subAll (is vs : List Nat) : Bool := is.all fun j => vs.contains j
theorem subAll_of {is vs : List Nat} (h : subAll is vs = true) : ∀ j ∈ is, j ∈ vs := fun j hj => by
  have := List.all_eq_true.mp h j hj
  simpa using this
theorem qo_lc {elt tg iter : Expr} {ifs : List Expr} {scope : Scope} {pos : Pos} {itf : Env → T (List D)} {is : List Nat} {tgt : D → Env → Option Env} {cond : Env → T Bool} {ef : Env → T D} (own : List (Str × Nat))
    (hc : X.calm = true) (hN : X.N.Nodup) (hi : QI X tb W tg iter itf) (hb : blkC X.N X.env.scope scope own = true) 
    (hg : ∀ (s : Shared) (H : Hp) (C : Addr) (cl : List (Str × Addr)) (fp : List Addr), QG (X.blk s H scope (compEnvC scope cl C X.env) fp) tg is tgt)
    (ht : ∀ (s : Shared) (H : Hp) (C : Addr) (cl : List (Str × Addr)) (fp : List Addr), QTs (X.blk s H scope (compEnvC scope cl C X.env) fp) tb WF ifs cond)
    (he : ∀ (s : Shared) (H : Hp) (C : Addr) (cl : List (Str × Addr)) (fp : List Addr), QE (X.blk s H scope (compEnvC scope cl C X.env) fp) tb WF elt ef)
    (hsub : subAll is (own.map (·.2)) = true := by rfl) (hs : ∀ x, foldedSetIterable iter X.env x = pure x := by intro _; rfl) :
    QO X tb W (.ListComp elt [⟨tg, iter, ifs, 0⟩] scope pos) (eComp itf (own.map (·.2)) tgt cond ef) :=
  ⟨_, pe_lc (own := own) hc hN hi.pi (blkOk_by hb) (fun s H C cl fp => (hg s H C cl fp).pg) (fun s H C cl fp => (ht s H C cl fp).pts) (fun s H C cl fp => (he s H C cl fp).pe) hs,
    imp_lc rfl (hg {} (fun _ => none) 0 [] []).st (subAll_of hsub)⟩
end
end MM

namespace MM
open PySem PySem.Spec L2

section
variable {X : Cx} {tb : Tb} {W : WX} {pos : Pos}
theorem xps {p : Pg} {g : Gh} {σ : St} {env : Env} {H : Hp} (E : ER p g σ env H) : ∀ x, XPs p g σ env H W x → XP p g σ H W x := fun x h cls dx H' s r => h cls dx σ env H' (E.step s) (s.s E) r
theorem xps_step {p : Pg} {g : Gh} {σ σ1 : St} {env env1 : Env} {H H1 : Hp} (s : SStep H H1) : ∀ x, XPs p g σ env H W x → XPs p g σ1 env1 H1 W x := fun x h cls dx σ' env' H' E' s' r => h cls dx σ' env' H' E' (s.trans s') r
theorem flp_step {p : Pg} {g : Gh} {σ σ1 : St} {env env1 : Env} {H H1 : Hp} {Dn : Ends} (s : SStep H H1) : ∀ f, FlP p g σ env H Dn f → FlP p g σ1 env1 H1 Dn f := fun f h => by
  cases f with
  | nx e' => exact fun σ' H' E' s' => h σ' H' E' (s.trans s')
  | bk e' => exact fun σ' H' E' s' => h σ' H' E' (s.trans s')
  | ct e' => exact fun σ' H' E' s' => h σ' H' E' (s.trans s')
  | rt d => exact fun v σ' e' H' E' s' r => h v σ' e' H' E' (s.trans s') r

/-! ### simple statements -/
def sNx : Env → T Fl := fun env => .ret (.nx env)
def sBk : Env → T Fl := fun env => .ret (.bk env)
def sCt : Env → T Fl := fun env => .ret (.ct env)
def sDrop (f : Env → T D) : Env → T Fl := fun env => (f env).bind fun _ => .ret (.nx env)
def sRet (f : Env → T D) : Env → T Fl := fun env => (f env).bind fun d => .ret (.rt d)
def sSet (i : Nat) (f : Env → T D) : Env → T Fl := fun env => (f env).bind fun d => if i < env.length then .ret (.nx (env.set i (.frz d))) else .bad
def sOwn (i : Nat) (f : Env → T D) : Env → T Fl := fun env => (f env).bind fun d => if i < env.length then .ret (.nx (env.set i (.own d))) else .bad
def sIf (c : Env → T Bool) (a b : Env → T Fl) : Env → T Fl := fun env => (c env).bind fun k => if k then a env else b env
def sSeq (a b : Env → T Fl) : Env → T Fl := fun env => (a env).bind fun
  | .nx e => b e
  | f => .ret f
theorem qs_pass : QS X tb W (.Pass pos) sNx := ⟨_, ps_pass, fun g σ env H Dn E hw => hw σ H E SStep.refl⟩
theorem qs_break : QS X tb W (.Break pos) sBk := ⟨_, ps_break, fun g σ env H Dn E hw => hw σ H E SStep.refl⟩
theorem qs_cont : QS X tb W (.Continue pos) sCt := ⟨_, ps_continue, fun g σ env H Dn E hw => hw σ H E SStep.refl⟩
theorem qs_doc {x j p} : QS X tb W (.Expr (.Constant (.str x) j p) pos) sNx := ⟨_, ps_doc, fun g σ env H Dn E hw => hw σ H E SStep.refl⟩
theorem qs_expr {e : Expr} {f : Env → T D} (h : QE X tb W e f) (hs : swapsWith e none pos.line X.env = pure false := by rfl) : QS X tb W (.Expr e pos) (sDrop f) := by
  obtain ⟨t, h1, h2⟩ := h.ex
  refine ⟨_, ps_expr h1 hs, fun g σ env H Dn E hw => ?_⟩
  unfold sDrop at hw
  rw [T.wp_bind] at hw
  exact h2 g σ env H _ E (T.wp_mono (fun d q v H' s r => q σ H' (E.step s) (s.s E)) (xps E) hw)
theorem qs_ret {e : Expr} {f : Env → T D} (h : QE X tb W e f) : QS X tb W (.Return (some e) pos) (sRet f) := by
  obtain ⟨t, h1, h2⟩ := h.ex
  refine ⟨_, ps_ret h1, fun g σ env H Dn E hw => ?_⟩
  unfold sRet at hw
  rw [T.wp_bind] at hw
  exact h2 g σ env H _ E (T.wp_mono (fun d q v H' s r => q v σ env H' (E.step s) (s.s E) r) (xps E) hw)
theorem qs_retN : QS X tb W (.Return none pos) (sRet (eC .non)) := ⟨_, ps_retN, fun g σ env H Dn E hw => hw .non σ env H E SStep.refl (by simp [Rep])⟩
theorem qs_set {i : Nat} {x : Str} {e : Expr} {pos' : Pos} {f : Env → T D} (hN : X.N.Nodup) (h : QE X tb W e f) (hi : X.N[i]? = some x := by rfl) (hx : Loc X.env.scope x := by first | exact Or.inl rfl | exact Or.inr rfl) (hs : swapsWith e (some (.Name x pos')) pos.line X.env = pure false := by rfl) (hf : X.fn x = true ∨ X.env.scope.names.lookup x = some .local := by first | exact .inl rfl | exact .inr rfl | assumption) :
    QS X tb W (.Assign [.Name x pos'] e pos) (sSet i f) := by
  obtain ⟨t, h1, h2⟩ := h.ex
  refine ⟨_, ps_set hN hi hx h1 hs hf, fun g σ env H Dn E hw => ?_⟩
  unfold sSet at hw
  rw [T.wp_bind] at hw
  refine h2 g σ env H _ E (T.wp_mono (fun d q v H' s r => ?_) (xps E) hw)
  split at q
  · rename_i hl
    exact q _ H' ((E.step s).setF hl r) ((s.s E).trans SStep.setF)
  · exact q.elim
/-- a fresh thing stored: the slot owns it -/
theorem qs_own {i : Nat} {x : Str} {e : Expr} {pos' : Pos} {f : Env → T D} (hN : X.N.Nodup) (h : QO X tb W e f) (hi : X.N[i]? = some x := by rfl) (hx : Loc X.env.scope x := by first | exact Or.inl rfl | exact Or.inr rfl) (hs : swapsWith e (some (.Name x pos')) pos.line X.env = pure false := by rfl) (hf : X.fn x = true ∨ X.env.scope.names.lookup x = some .local := by first | exact .inl rfl | exact .inr rfl | assumption) :
    QS X tb W (.Assign [.Name x pos'] e pos) (sOwn i f) := by
  obtain ⟨t, h1, h2⟩ := h.ex
  refine ⟨_, ps_set hN hi hx h1 hs hf, fun g σ env H Dn E hw => ?_⟩
  unfold sOwn at hw
  rw [T.wp_bind] at hw
  refine h2 g σ env H _ E (T.wp_mono (fun d q a H' s E' n0 h0 hf r => ?_) (xps E) hw)
  split at q
  · rename_i hl
    exact q _ H' (E'.setO hl n0 h0 r) (s.s E)
  · exact q.elim
/-- y = [..] on one line -/
theorem qs_setLc {i : Nat} {y : Str} {py : Pos} {elt tg iter : Expr} {ifs : List Expr} {scope : Scope} {pos spos : Pos} {itf : Env → T (List D)} {is : List Nat} {tgt : D → Env → Option Env} {cond : Env → T Bool} {ef : Env → T D} (own : List (Str × Nat))
    (hc : X.calm = true) (hN : X.N.Nodup) (hi : QI X tb W tg iter itf) (hb : blkC X.N X.env.scope scope own = true)
    (hg : ∀ (s : Shared) (H : Hp) (C : Addr) (cl : List (Str × Addr)) (fp : List Addr), QG (X.blk s H scope (compEnvC scope cl C X.env) fp) tg is tgt)
    (ht : ∀ (s : Shared) (H : Hp) (C : Addr) (cl : List (Str × Addr)) (fp : List Addr), QTs (X.blk s H scope (compEnvC scope cl C X.env) fp) tb WF ifs cond)
    (he : ∀ (s : Shared) (H : Hp) (C : Addr) (cl : List (Str × Addr)) (fp : List Addr), QE (X.blk s H scope (compEnvC scope cl C X.env) fp) tb WF elt ef)
    (hsw : swapsWith (.ListComp elt [⟨tg, iter, ifs, 0⟩] scope pos) (some (.Name y py)) spos.line X.env = pure true)
    (hy : X.N[i]? = some y := by rfl) (hyl : X.env.scope.names.lookup y = some .local := by rfl)
    (hsub : subAll is (own.map (·.2)) = true := by rfl) (hs : ∀ x, foldedSetIterable iter X.env x = pure x := by intro _; rfl) :
    QS X tb W (.Assign [.Name y py] (.ListComp elt [⟨tg, iter, ifs, 0⟩] scope pos) spos) (sOwn i (eComp itf (own.map (·.2)) tgt cond ef)) := by
  refine ⟨_, ps_setLc (own := own) (wi := rdI (pgOf X tb) W itf) (g := rdG X.K is tgt) (tt := rdT (pgOf X tb) WF cond) (te := rdE (pgOf X tb) WF ef) hc hN hy hyl hsw hi.pi (blkOk_by hb) (fun s H C cl fp => (hg s H C cl fp).pg) (fun s H C cl fp => (ht s H C cl fp).pts) (fun s H C cl fp => (he s H C cl fp).pe) hs, fun g σ env H Dn E hw => ?_⟩
  have imp := imp_lc (K := X.K) (p := pgOf X tb) (W := W) (itf := itf) (cond := cond) (elt := ef) rfl (hg {} (fun _ => none) 0 [] []).st (subAll_of hsub)
  unfold sOwn at hw
  rw [T.wp_bind] at hw
  refine imp g σ env H _ E (T.wp_mono (fun d q a H' s E' n0 h0 hf r => ?_) (xps E) hw)
  split at q
  · rename_i hl
    exact q _ H' (E'.setO hl n0 h0 r) (s.s E)
  · exact q.elim
/-- targets of any form -/
def sAsg (tgt : D → Env → Option Env) (f : Env → T D) : Env → T Fl := fun env => (f env).bind fun d => (ofO (tgt d env)).bind fun e => .ret (.nx e)
theorem qs_asg {tg e : Expr} {is : List Nat} {tgt : D → Env → Option Env} {f : Env → T D} (h : QE X tb W e f) (hg : QG X tg is tgt) (hs : swapsWithSole [tg] e pos.line X.env = pure false := by rfl) (hw : swappedStores [tg] e X.env = pure none := by rfl) (ha : (assignEach [tg] X.env).map (·.2) = [assign tg X.env] := by rfl) :
    QS X tb W (.Assign [tg] e pos) (sAsg tgt f) := by
  obtain ⟨t, h1, h2⟩ := h.ex
  obtain ⟨gt, g1, g2⟩ := hg.ex
  refine ⟨_, ps_asg h1 g1 hs hw ha, fun g σ env H Dn E hw => ?_⟩
  unfold sAsg at hw
  rw [T.wp_bind] at hw
  refine h2 g σ env H _ E (T.wp_mono (fun d q v H' s r => ?_) (xps E) hw)
  cases ht : tgt d env with
  | none => rw [ht] at q; exact q.elim
  | some env' =>
    rw [ht] at q
    exact g2 (pgOf X tb) g σ env H' _ d v env' rfl (E.step s) r ht fun σ' E' S' _ => q σ' H' E' ((s.s E).trans S')
/-- a, b = x, y by plain local names -/
def sPar (i j : Nat) (fa : Env → T (List D)) : Env → T Fl := fun env => (fa env).bind fun
  | [x, y] => if i < env.length && j < env.length then .ret (.nx ((env.set i (.frz x)).set j (.frz y))) else .bad
  | _ => .bad
theorem qs_par {i j : Nat} {x y : Str} {a b : Expr} {px py pt : Pos} {kt k2 pt2} {fa : Env → T (List D)} (hc : X.calm = true) (hN : X.N.Nodup) (ha : QA X tb W [a, b] fa) (hi : X.N[i]? = some x := by rfl) (hj : X.N[j]? = some y := by rfl) (hij : i ≠ j := by decide)
    (hx : X.env.scope.names.lookup x = some .local := by rfl) (hy : X.env.scope.names.lookup y = some .local := by rfl)
    (hw : swappedStores [.Tuple [.Name x px, .Name y py] kt pt] (.Tuple [a, b] k2 pt2) X.env = pure (some [x, y]) := by rfl)
    (hs : swapsWithSole [.Tuple [.Name x px, .Name y py] kt pt] (.Tuple [a, b] k2 pt2) pos.line X.env = pure false := by rfl) :
    QS X tb W (.Assign [.Tuple [.Name x px, .Name y py] kt pt] (.Tuple [a, b] k2 pt2) pos) (sPar i j fa) := by
  obtain ⟨t, h1, h2⟩ := ha.ex
  refine ⟨_, ps_par hc hN hi hj hij hx hy h1 hw hs, fun g σ env H Dn E hw => ?_⟩
  unfold sPar at hw
  rw [T.wp_bind] at hw
  refine h2 g σ env H _ E (T.wp_mono (fun ds q vs H' s r => ?_) (xps E) hw)
  split at q
  · rename_i x y
    split at q
    · rename_i hl
      simp only [Bool.and_eq_true, decide_eq_true_eq] at hl
      obtain ⟨v, w, rfl, rv, rw'⟩ := ra2 r
      have E1 := (E.step s).setF hl.1 rv
      have m1 : SStep H' H' := SStep.setF
      have E2 := E1.setF (i := j) (by simpa using hl.2) (rw'.mv m1.mv)
      exact ⟨v, w, rfl, q _ H' E2 (((s.s E).trans m1).trans SStep.setF)⟩
    · exact q.elim
  · exact q.elim
theorem qs_if {c : Expr} {a b : List Stmt} {fc : Env → T Bool} {fa fb : Env → T Fl} (hc : QT X tb W c fc) (ha : QB X tb W a fa) (hb : QB X tb W b fb) : QS X tb W (.If c a b pos) (sIf fc fa fb) := by
  obtain ⟨t, h1, h2⟩ := hc.ex
  obtain ⟨ta, a1, a2⟩ := ha.ex
  obtain ⟨tb', b1, b2⟩ := hb.ex
  refine ⟨_, ps_if h1 a1 b1, fun g σ env H Dn E hw => ?_⟩
  unfold sIf at hw
  rw [T.wp_bind] at hw
  refine h2 g σ env H _ E (T.wp_mono (fun k q H1 s1 => ?_) (xps E) hw)
  have st := s1.s E
  cases k with
  | true =>
    rw [if_pos rfl] at q
    exact iteT (a2 g σ env H1 Dn (E.step s1) (T.wp_mono (flp_step st) (xps_step st) q))
  | false =>
    rw [if_neg (by simp)] at q
    exact iteF (b2 g σ env H1 Dn (E.step s1) (T.wp_mono (flp_step st) (xps_step st) q))
/-! ### blocks -/
theorem qb_nil : QB X tb W [] sNx := ⟨_, pss_nil, fun g σ env H Dn E hw => hw σ H E SStep.refl⟩
theorem qb_cons {st : Stmt} {rest : List Stmt} {f h : Env → T Fl} (h1 : QS X tb W st f) (h2 : QB X tb W rest h) : QB X tb W (st :: rest) (sSeq f h) := by
  obtain ⟨t, p1, i1⟩ := h1.ex
  obtain ⟨u, p2, i2⟩ := h2.ex
  refine ⟨_, pss_cons p1 p2, fun g σ env H Dn E hw => ?_⟩
  unfold sSeq at hw
  rw [T.wp_bind] at hw
  refine i1 g σ env H _ E (T.wp_mono (fun fl q => ?_) (fun _ z => z) hw)
  cases fl with
  | nx e' => exact fun σ' H' E' s' => i2 g σ' e' H' Dn E' (T.wp_mono (flp_step s') (xps_step s') q)
  | bk e' => exact q
  | ct e' => exact q
  | rt d => exact q
theorem qb_one {st : Stmt} {f : Env → T Fl} (h1 : QS X tb W st f) : QB X tb W [st] f := by
  obtain ⟨t, p1, i1⟩ := h1.ex
  exact ⟨_, pss_one p1, fun g σ env H Dn E hw => i1 g σ env H _ E hw⟩
/-- what a slot owns is let go, ahead of a block -/
def sFrz (i : Nat) (f : Env → T Fl) : Env → T Fl := fun env => match env[i]? with
  | some (.own d) => f (env.set i (.frz d))
  | some (.own2 d) => f (env.set i (.frz d))
  | _ => f env
theorem qb_frz (i : Nat) {sts : List Stmt} {f : Env → T Fl} (h : QB X tb W sts f) : QB X tb W sts (sFrz i f) := by
  obtain ⟨t, p1, i1⟩ := h.ex
  refine ⟨_, pss_lq p1, fun g σ env H Dn E hw => ?_⟩
  unfold sFrz at hw
  split at hw
  · rename_i d hd
    refine E.freeze hd fun H' E' m dm => ?_
    have st : SStep H H' := ⟨m, dm⟩
    exact i1 g σ _ H' Dn E' (T.wp_mono (flp_step st) (xps_step st) hw)
  · rename_i d hd
    refine E.freeze2 hd fun H' E' m dm => ?_
    have st : SStep H H' := ⟨m, dm⟩
    exact i1 g σ _ H' Dn E' (T.wp_mono (flp_step st) (xps_step st) hw)
  · exact .done (i1 g σ env H Dn E hw)

/-! ### loops -/
def forL (tgt : D → Env → Option Env) (body : Env → T Fl) : List D → Env → T Fl
  | [], env => .ret (.nx env)
  | d :: ds, env => (ofO (tgt d env)).bind fun e => (body e).bind fun
    | .nx e' => forL tgt body ds e'
    | .ct e' => forL tgt body ds e'
    | .bk e' => .ret (.nx e')
    | .rt v => .ret (.rt v)
def sFor (it : Env → T (List D)) (tgt : D → Env → Option Env) (body : Env → T Fl) : Env → T Fl := fun env => (it env).bind fun ds => forL tgt body ds env
theorem qs_for {tg iter : Expr} {body : List Stmt} {itf : Env → T (List D)} {is : List Nat} {tgt : D → Env → Option Env} {f : Env → T Fl} (hp : PassesOwn (model X.prog X.w) X.A X.env X.xe) (hc : X.calm = true) (hi : QI X tb W tg iter itf) (hg : QG X tg is tgt) (hb : QB X tb W body f)
    (hs : ∀ x, foldedSetIterable iter X.env x = pure x := by intro _; rfl) : QS X tb W (.For tg iter body [] pos) (sFor itf tgt f) := by
  obtain ⟨wi, w1, w2⟩ := hi.ex
  obtain ⟨gt, g1, g2⟩ := hg.ex
  obtain ⟨t, b1, b2⟩ := hb.ex
  refine ⟨_, ps_for hp hc w1 g1 b1 hs, fun g σ env H Dn E hw => ?_⟩
  unfold sFor at hw
  rw [T.wp_bind] at hw
  refine w2 g σ env H _ E (T.wp_mono (fun ds q J H1 s1 hds hJ => ?_) (xps E) hw)
  have E1 := E.step s1
  have S1 := s1.s E
  refine ⟨fun i m σ' H' => i + m = ds.length ∧ ∃ env', ER (pgOf X tb) g σ' env' H' ∧ SStep H1 H' ∧ (forL tgt f (ds.drop i) env').wp (FlP (pgOf X tb) g σ env H Dn) (XPs (pgOf X tb) g σ env H W), ⟨ds.length, by omega, env, E1, SStep.refl, by rw [List.drop_zero]; exact q⟩, ?_⟩
  rintro i m σ2 H2 ⟨him, env2, E2, S12, hq⟩
  obtain ⟨hgo, hstop⟩ := hJ g σ2 env2 H2 E2 rfl S12.mv i
  by_cases hi : i < ds.length
  rotate_left
  · refine .inl ⟨hstop (by omega), ?_⟩
    rw [List.drop_of_length_le (by omega)] at hq
    exact hq σ2 H2 E2 (S1.trans S12)
  have hdi : ds[i]? = some ds[i] := List.getElem?_eq_getElem hi
  obtain ⟨hgo1, hy⟩ := hgo _ hdi
  refine .inr ⟨hgo1, fun σ' H' => ∃ m', m' < m ∧ _, fun σ' H' h => h, fun x H3 hyl => ?_⟩
  obtain ⟨s23, rx⟩ := hy x H3 hyl
  have E3 := E2.step s23
  rw [List.drop_eq_getElem_cons hi] at hq
  simp only [forL] at hq
  rw [T.wp_bind] at hq
  cases ht : tgt ds[i] env2 with
  | none => rw [ht] at hq; exact hq.elim
  | some env' =>
    rw [ht] at hq
    simp only [ofO, T.wp] at hq
    refine g2 (pgOf X tb) g σ2 env2 H3 _ ds[i] x env' rfl E3 rx ht fun σ' E' S' _ => ?_
    have S13 : SStep H1 H3 := (S12.trans (s23.s E2)).trans S'
    have S03 := S1.trans S13
    rw [T.wp_bind] at hq
    refine b2 g σ' env' H3 _ E' (T.wp_mono (fun fl hq => ?_) (xps_step S03) hq)
    cases fl with
    | nx e' => exact fun σ5 H5 E5 S5 => ⟨m - 1, by omega, by omega, e', E5, S13.trans S5, hq⟩
    | ct e' => exact fun σ5 H5 E5 S5 => ⟨m - 1, by omega, by omega, e', E5, S13.trans S5, hq⟩
    | bk e' => exact fun σ5 H5 E5 S5 => hq σ5 H5 E5 (S03.trans S5)
    | rt v => exact fun vv σ5 e5 H5 E5 S5 r => hq vv σ5 e5 H5 E5 (S03.trans S5) r
/-- a while, of at most n turns -/
def whileN (c : Env → T Bool) (body : Env → T Fl) : Nat → Env → T Fl
  | 0, _ => .bad
  | n + 1, env => (c env).bind fun b => if b then (body env).bind fun
      | .nx e' => whileN c body n e'
      | .ct e' => whileN c body n e'
      | .bk e' => .ret (.nx e')
      | .rt v => .ret (.rt v)
    else .ret (.nx env)
def sWhile (n : Env → Nat) (c : Env → T Bool) (body : Env → T Fl) : Env → T Fl := fun env => whileN c body (n env) env
theorem qs_while {c : Expr} {body : List Stmt} {fc : Env → T Bool} {f : Env → T Fl} (n : Env → Nat) (hp : PassesOwn (model X.prog X.w) X.A X.env X.xe) (hc : QT X tb W c fc) (hb : QB X tb W body f) : QS X tb W (.While c body [] pos) (sWhile n fc f) := by
  obtain ⟨tc, c1, c2⟩ := hc.ex
  obtain ⟨t, b1, b2⟩ := hb.ex
  refine ⟨_, ps_while hp c1 b1, fun g σ env H Dn E hw => ?_⟩
  unfold sWhile at hw
  refine ⟨fun m σ' H' => ∃ env', ER (pgOf X tb) g σ' env' H' ∧ SStep H H' ∧ (whileN fc f m env').wp (FlP (pgOf X tb) g σ env H Dn) (XPs (pgOf X tb) g σ env H W), ⟨n env, env, E, SStep.refl, hw⟩, ?_⟩
  rintro m σ2 H2 ⟨env2, E2, S2, hq⟩
  cases m with
  | zero => exact hq.elim
  | succ m =>
    simp only [whileN] at hq
    rw [T.wp_bind] at hq
    refine c2 g σ2 env2 H2 _ E2 (T.wp_mono (fun k hq H3 s3 => ?_) (fun x h => xps E2 x (xps_step S2 x h)) hq)
    have E3 := E2.step s3
    have S3 := S2.trans (s3.s E2)
    cases k with
    | false =>
      rw [if_neg (by simp)] at hq
      exact iteF (hq σ2 H3 E3 S3)
    | true =>
      rw [if_pos rfl] at hq
      refine iteT ⟨fun σ' H' => ∃ m', m' < m + 1 ∧ _, fun σ' H' h => h, ?_⟩
      rw [T.wp_bind] at hq
      refine b2 g σ2 env2 H3 _ E3 (T.wp_mono (fun fl hq => ?_) (xps_step S3) hq)
      cases fl with
      | nx e' => exact fun σ5 H5 E5 S5 => ⟨m, by omega, e', E5, S3.trans S5, hq⟩
      | ct e' => exact fun σ5 H5 E5 S5 => ⟨m, by omega, e', E5, S3.trans S5, hq⟩
      | bk e' => exact fun σ5 H5 E5 S5 => hq σ5 H5 E5 (S3.trans S5)
      | rt v => exact fun vv σ5 e5 H5 E5 S5 r => hq vv σ5 e5 H5 E5 (S3.trans S5) r
end
end MM

namespace MM
open PySem PySem.Spec L2

/-- what a def promises: it computes m -/
def SpM (p : Pg) (n : Nat) (m : List D → T D) : Sp := fun vs H Q E => ∃ (N0 C : Addr → Prop) (ds : List D), vs.length = n ∧ (∀ a, C a → N0 a) ∧ (∀ a, C a → CupAt H a) ∧ (∀ a, N0 a → Ob H a) ∧ LamX.Tabs p.tb.l H ∧ RepL p C H ds vs ∧
  (m ds).wp (fun d => ∀ v H', Step p C H H' → Rep p C H' d v → Q v H') (fun x => ∀ cls dx H', Step p C H H' → ExR p C H' x cls dx → E cls dx H')
def eFn (n : Nat) (m : List D → T D) (fa : Env → T (List D)) : Env → T D := fun env => (fa env).bind fun xs => if lenL xs = n then m xs else .bad
section
variable {X : Cx} {tb : Tb} {W : WX} {pos : Pos}
theorem qe_call {k n : Nat} {f : Addr} {fd : FuncData} {ps : List Str} {m : List D → T D} {x : Str} {p : Pos} {e : Expr} {es : List Expr} {fa : Env → T (List D)} (F : FnOk X.prog X.w X.K X.mg X.base (L2.CX X.prog X.w) k f fd ps (SpM (pgOf X tb) n m)) (hr : Room k X.A) (tk : Takes X W)
    (hm : X.mg x = some (.ref f)) (hk : PySem.W.keepIn X.K (.ref f) = true) (hb : Binds X.K fd ps []) (ha : QA X tb W (e :: es) fa) (hg : Gl X x := by rfl) (hdb : (x == ("__debug__" : Str)) = false := by decide) (he : starEach (e :: es) X.env = (false, eval e X.env) :: starEach es X.env := by rfl)
    (hpl : (backTo pos (starEach es X.env)).any (·.1) = false := by rfl) : QE X tb W (.Call (.Name x p) (e :: es) [] pos) (eFn n m fa) := by
  obtain ⟨t, h1, h2⟩ := ha.ex
  refine ⟨_, pe_callS F hr hg hm hk hb (fun σ => passAt tk σ) h1 hdb he hpl, fun g σ env H Q E hw => ?_⟩
  unfold eFn at hw
  rw [T.wp_bind] at hw
  refine h2 g σ env H _ E (T.wp_mono (fun xs q vs H1 s1 r1 => ?_) (fun _ z => z) hw)
  split at q
  · rename_i hl
    have E1 := E.step s1
    rw [lenL_eq] at hl
    exact ⟨g.N0, g.C, xs, by rw [r1.length, hl], g.hC, E1.cup, E1.n0, E1.tabs, r1, T.wp_mono (fun d q v H' s r => q v H' (s1.trans s) r) (fun x h cls dx H' s r => h cls dx H' (s1.trans s) r) q⟩
  · exact q.elim
theorem pe_call0S {CX : CXT} {k : Nat} {f : Addr} {fd : FuncData} {ps : List Str} {sp : Sp} {E : St → XK} {x : Str} {p : Pos} (F : FnOk X.prog X.w X.K X.mg X.base CX k f fd ps sp) (hr : Room k X.A) (hg : Gl X x) (hm : X.mg x = some (.ref f)) (hk : PySem.W.keepIn X.K (.ref f) = true) (hb : Binds X.K fd ps []) (hx : ∀ σ, PassesAt CX X σ (E σ))
    (hdb : (x == ("__debug__" : Str)) = false := by decide) : PE X (.Call (.Name x p) [] [] pos) (tCallS sp E tNil) := by
  refine ⟨fun pins s σ H Q I h => ?_⟩
  refine wpAny_Call_Name_kw (ld_glob I hg hm ?_ hdb)
  exact PySem.W.callWith_K0 I.kIn hk (run_fnS (us := []) F hr hb (hx σ) I .nil h)
theorem qe_call0 {k : Nat} {f : Addr} {fd : FuncData} {ps : List Str} {m : List D → T D} {x : Str} {p : Pos} (F : FnOk X.prog X.w X.K X.mg X.base (L2.CX X.prog X.w) k f fd ps (SpM (pgOf X tb) 0 m)) (hr : Room k X.A) (tk : Takes X W)
    (hm : X.mg x = some (.ref f)) (hk : PySem.W.keepIn X.K (.ref f) = true) (hb : Binds X.K fd ps []) (hg : Gl X x := by rfl) (hdb : (x == ("__debug__" : Str)) = false := by decide) : QE X tb W (.Call (.Name x p) [] [] pos) (eFn 0 m aNil) := by
  refine ⟨_, pe_call0S F hr hg hm hk hb (fun σ => passAt tk σ) hdb, fun g σ env H Q E hw => ?_⟩
  exact ⟨g.N0, g.C, [], rfl, g.hC, E.cup, E.n0, E.tabs, .nil, hw⟩
end
def startE (n : Nat) (ds : List D) : Env := ds.map .frz ++ List.replicate (n - ds.length) .no
def runB (n : Nat) (gS : Env → T Fl) : List D → T D := fun ds => (gS (startE n ds)).bind fun
  | .nx _ => .ret .non
  | .rt d => .ret d
  | _ => .bad
theorem startE_get {n : Nat} {ds : List D} {i : Nat} {s : Sl} (h : (startE n ds)[i]? = some s) : (∃ d, ds[i]? = some d ∧ s = .frz d) ∨ s = .no := by
  unfold startE at h
  by_cases hi : i < ds.length
  · rw [List.getElem?_append_left (by simpa using hi), List.getElem?_map, List.getElem?_eq_getElem hi] at h
    cases h
    exact .inl ⟨_, List.getElem?_eq_getElem hi, rfl⟩
  · rw [List.getElem?_append_right (by simpa using hi), List.getElem?_replicate] at h
    split at h <;> cases h
    exact .inr rfl
theorem er_start {p : Pg} {N : List Str} {N0 C : Addr → Prop} {ds : List D} {vs : List V} {H : Hp} (hC : ∀ a, C a → N0 a) (hl : vs.length ≤ N.length) (hcup : ∀ a, C a → CupAt H a) (hn0 : ∀ a, N0 a → Ob H a) (tabs : LamX.Tabs p.tb.l H) (hth : p.tb.th = none) (r : RepL p C H ds vs) :
    ER p ⟨H, N0, C, hC⟩ (L2.start N vs) (startE N.length ds) H := by
  have noown : ∀ i a, ¬ OwnAt (L2.start N vs) (startE N.length ds) H i a := fun i a => by
    rintro (⟨⟨d, h⟩, _⟩ | ⟨⟨d, h⟩, _⟩) <;> rcases startE_get h with ⟨_, _, z⟩ | z <;> cases z
  refine ⟨?_, fun b o h _ _ => h, fun b h => h, hcup, tabs, hn0, fun i s hs => ?_, fun i j a h => (noown i a h).elim, fun i a h => (noown i a h).elim, fun t z => by rw [hth] at z; cases z⟩
  · unfold L2.start startE
    simp [r.length]
  · rcases startE_get hs with ⟨d, hd, rfl⟩ | rfl
    · obtain ⟨v, hv, rv⟩ := r.get hd
      refine ⟨v, ?_, rv⟩
      unfold L2.start
      have hi : i < vs.length := (List.getElem?_eq_some_iff.mp hv).1
      rw [List.getElem?_append_left (by simpa using hi), List.getElem?_map, hv]
      rfl
    · trivial
theorem ER.out {p : Pg} {g : Gh} {σ : St} {env : Env} {H : Hp} (E : ER p g σ env H) : Step p g.C g.H0 H := ⟨E.keep, E.cup, E.tabs, E.dom⟩
section
variable {P : Program} {w : World} {K : PySem.W.Frag} {mg : Str → Option Value} {base : Heap} {tb : List (Addr × Str)}
theorem okM {x qual : Str} {st : Stmt} {f : Addr} {fd : FuncData} {N ps : List Str} {k n : Nat} {gS : Env → T Fl} (F : Fun K x qual st f fd) (S : FnScope N ps (defScope st)) (hn : ps.length = n)
    (hbody : ∀ (cdv : Value) (A : Around) (outer : List PySem.Env) (s : Shared) (H : Hp) (E : XK), Room k (A.deeper (PyProof.Rows.envOfC qual (defScope st) s.heap.objs.size f cdv)) →
      QB (cxOf (L2.CX P w) P w K mg base N qual (defScope st) f cdv A outer s H E) (tb0 tb) (fun cls d _ H' => E cls d H') (defBody st) gS) :
    FnOk P w K mg base (L2.CX P w) (k + 1) f fd ps (SpM ⟨K, mg, tb0 tb⟩ n (runB N.length gS)) := by
  refine F.okX S (fun vs H Q E h => ?_) (fun cdv A outer s H vs Q E hr h => ?_)
  · obtain ⟨_, _, _, hl, _⟩ := h
    rw [hl, hn]
  · obtain ⟨N0, C, ds, hl, hC, hcup, hn0, tabs, r, hw⟩ := h
    obtain ⟨t, p1, i1⟩ := (hbody cdv A outer s H E hr).ex
    refine ⟨t, p1, ?_⟩
    have hpl : ps.length ≤ N.length := by have := congrArg List.length S.pre; rw [List.length_take] at this; omega
    have E0 := er_start (p := ⟨K, mg, tb0 tb⟩) (N := N) hC (by rw [hl, ← hn]; exact hpl) hcup hn0 tabs rfl r
    unfold runB at hw
    rw [T.wp_bind] at hw
    refine i1 _ _ _ H _ E0 (T.wp_mono (fun fl q => ?_) (fun x q => ?_) hw)
    · cases fl with
      | nx e' => exact fun σ' H' E' _ => q .non H' E'.out (by simp [Rep])
      | bk e' => exact q.elim
      | ct e' => exact q.elim
      | rt d => exact fun v σ' e' H' E' _ r' => q v H' E'.out r'
    · exact fun cls dx σ' env' H' E' _ r' => q cls dx H' E'.out r'
/-- a def of which nothing is known -/
theorem ok_bad {f : Addr} {fd : FuncData} {ps : List Str} {k n : Nat} : FnOk P w K mg base (L2.CX P w) k f fd ps (SpM ⟨K, mg, tb0 tb⟩ n fun _ => .bad) :=
  ⟨fun vs H Q E h => by obtain ⟨_, _, _, _, _, _, _, _, _, z⟩ := h; exact z.elim, fun A outer s H args us vs Q E _ _ _ _ h => by obtain ⟨_, _, _, _, _, _, _, _, _, z⟩ := h; exact z.elim⟩
end

/-! ### constants of the top -/
def KR (p : Pg) (v : V) (d : D) : Prop := ∀ C H, Rep p C H d v
section
variable {X : Cx} {tb : Tb} {W : WX} {pos : Pos}
theorem qe_glob {x : Str} {v : V} {u : Value} {d : D} (hm : X.mg x = some u) (r : RelV v u) (h : KR (pgOf X tb) v d) (hg : Gl X x := by rfl) (hd : (x == ("__debug__" : Str)) = false := by decide) : QE X tb W (.Name x pos) (eC d) := qe_c (pe_glob hg hm r hd) h
theorem kr_int {p : Pg} {i : Int} : KR p (.int i) (.int i) := fun _ _ => repI
theorem kr_str {p : Pg} {x : Str} {s : List Nat} (h : (x.cps.toList == s && okS s) = true) : KR p (.str x) (.str s) := fun _ _ => by
  simp only [Bool.and_eq_true, beq_iff_eq] at h
  obtain ⟨h1, h2⟩ := h
  subst h1
  obtain ⟨a, b⟩ := okS_iff h2
  exact repStr a b
end
end MM

namespace MM
open PySem PySem.Spec L2

/-! ### defs by their names -/
def DefAt (K : PySem.W.Frag) (mg : Str → Option Value) (x : Str) (st : Stmt) (ps : List Str) : Prop :=
  ∃ f fd, Fun K x x st f fd ∧ mg x = some (.ref f) ∧ Binds K fd ps []
def OkF (P : Program) (w : World) (K : PySem.W.Frag) (mg : Str → Option Value) (base : Heap) (tb : List (Addr × Str)) (k n : Nat) (x : Str) (ps : List Str) (m : List D → T D) : Prop :=
  ∃ f fd, mg x = some (.ref f) ∧ PySem.W.keepIn K (.ref f) = true ∧ Binds K fd ps [] ∧ FnOk P w K mg base (L2.CX P w) k f fd ps (SpM ⟨K, mg, tb0 tb⟩ n m)
section
variable {P : Program} {w : World} {K : PySem.W.Frag} {mg : Str → Option Value} {base : Heap} {tb : List (Addr × Str)}
theorem DefAt.mk {x : Str} {st : Stmt} {ps : List Str} {h : Heap} {f : Addr} {oc : Value} {od an : Option Addr} {osl : Array (Option Value)} {kV doc pm cdv ct : Value} (X : K.In h) (G : h.Ns mainGlobals mg) (a : PySem.W.nsIn K mainGlobals x = some (some (.ref f)))
    (l : K.lookup f = some ⟨oc, od, .func (PySem.W.fnOf x x (defArgs st) (defBody st) (defScope st) .none kV doc pm an cdv ct), osl⟩) (c : PySem.W.codeIn K cdv x = true) (k : PySem.W.keepIn K (.ref f) = true)
    (b : ∀ (kV doc pm : Value) (an : Option Addr) (cdv ct : Value) (us : List Value), us.length = ps.length → bindArgs (PySem.W.fnOf x x (defArgs st) (defBody st) (defScope st) .none kV doc pm an cdv ct) ⟨us, []⟩ = pure (ps.zip us)) : DefAt K mg x st ps :=
  let F := fun_mk l c k
  ⟨f, _, F, PySem.W.mg_of X G a, F.binds b⟩
theorem OkF.mk {x : Str} {st : Stmt} {N ps : List Str} {k n : Nat} {gS : Env → T Fl} (F : DefAt K mg x st ps) (S : FnScope N ps (defScope st)) (hn : ps.length = n)
    (hbody : ∀ (f : Addr) (cdv : Value) (A : Around) (outer : List PySem.Env) (s : Shared) (H : Hp) (E : XK), Room k (A.deeper (PyProof.Rows.envOfC x (defScope st) s.heap.objs.size f cdv)) →
      QB (cxOf (L2.CX P w) P w K mg base N x (defScope st) f cdv A outer s H E) (tb0 tb) (fun cls d _ H' => E cls d H') (defBody st) gS) :
    OkF P w K mg base tb (k + 1) n x ps (runB N.length gS) := by
  obtain ⟨f, fd, F, g, b⟩ := F
  exact ⟨f, fd, g, F.kp, b, okM F S hn (hbody f)⟩
theorem OkF.up {x : Str} {ps : List Str} {j k n : Nat} {m : List D → T D} (F : OkF P w K mg base tb j n x ps m) (h : j ≤ k) : OkF P w K mg base tb k n x ps m := by
  obtain ⟨f, fd, g, kp, b, F⟩ := F
  exact ⟨f, fd, g, kp, b, F.mono h⟩
theorem OkF.bad {x : Str} {st : Stmt} {ps : List Str} {k n : Nat} (F : DefAt K mg x st ps) : OkF P w K mg base tb k n x ps (fun _ => .bad) := by
  obtain ⟨f, fd, F, g, b⟩ := F
  exact ⟨f, fd, g, F.kp, b, ok_bad⟩
end
section
variable {X : Cx} {tb : List (Addr × Str)} {W : WX} {pos : Pos}
theorem qe_callF {k n : Nat} {ps : List Str} {m : List D → T D} {x : Str} {p : Pos} {e : Expr} {es : List Expr} {fa : Env → T (List D)} (F : OkF X.prog X.w X.K X.mg X.base tb k n x ps m) (hr : Room k X.A) (tk : Takes X W)
    (ha : QA X (tb0 tb) W (e :: es) fa) (hg : Gl X x := by rfl) (hdb : (x == ("__debug__" : Str)) = false := by decide) (he : starEach (e :: es) X.env = (false, eval e X.env) :: starEach es X.env := by rfl)
    (hpl : (backTo pos (starEach es X.env)).any (·.1) = false := by rfl) : QE X (tb0 tb) W (.Call (.Name x p) (e :: es) [] pos) (eFn n m fa) := by
  obtain ⟨f, fd, g, kp, b, F⟩ := F
  exact qe_call F hr tk g kp b ha hg hdb he hpl
theorem qe_callF0 {k : Nat} {ps : List Str} {m : List D → T D} {x : Str} {p : Pos} (F : OkF X.prog X.w X.K X.mg X.base tb k 0 x ps m) (hr : Room k X.A) (tk : Takes X W) (hg : Gl X x := by rfl) (hdb : (x == ("__debug__" : Str)) = false := by decide) : QE X (tb0 tb) W (.Call (.Name x p) [] [] pos) (eFn 0 m aNil) := by
  obtain ⟨f, fd, g, kp, b, F⟩ := F
  exact qe_call0 F hr tk g kp b hg hdb
end
theorem u65 {A : Around} {k : Nat} (hr : Room k A) : A.units + 65 < cLine := by have := hr.un; omega

/-! ### draws -/
def rollM : List D → T D
  | [.cup, .int n] => if 0 < n ∧ n < 1073741824 then .draw n.toNat fun i => .ret (.int i) else .bad
  | _ => .bad
theorem cup_step {p : Pg} {C : Addr → Prop} {H : Hp} {a : Addr} {c d : Int} (hc : ∀ a, C a → CupAt H a) (t : LamX.Tabs p.tb.l H) (ca : C a) (h0 : 0 ≤ c) (h1 : 0 ≤ d) (h2 : d < 2147483543) : Step p C H (upd H a (.lst [.int c, .int d])) := by
  obtain ⟨x, y, e, _⟩ := hc a ca
  have oth : ∀ b u, H b = some u → (∀ vs, u ≠ .lst vs) → upd H a (.lst [.int c, .int d]) b = some u := fun b u hu n1 => by
    rw [upd_ne]
    · exact hu
    · rintro rfl
      rw [e] at hu; cases hu
      exact n1 _ rfl
  refine ⟨fun b o hb n _ => by rw [upd_ne (show b ≠ a from fun z => n (by rw [z]; exact ca))]; exact hb, fun b cb => ?_, fun q hq => ?_, fun b hb => ?_⟩
  · by_cases z : b = a
    · subst z; exact ⟨c, d, upd_same, h0, h1, h2⟩
    · obtain ⟨x, y, e, q⟩ := hc b cb
      exact ⟨x, y, by rw [upd_ne z]; exact e, q⟩
  · obtain ⟨ps, hps, tr, hcv⟩ := t q hq
    refine ⟨ps, oth _ _ hps (fun _ => by simp), tr, fun pos cv h => ?_⟩
    obtain ⟨c, e, hc⟩ := hcv pos cv h
    exact ⟨c, e, oth _ _ hc (fun _ => by simp [LamX.CodeO])⟩
  · obtain ⟨u, hu, t⟩ := hb
    by_cases z : b = a
    · subst z; exact ⟨_, upd_same, fun _ => by simp⟩
    · exact ⟨u, by rw [upd_ne z]; exact hu, t⟩
/-- the promise of the def that makes the cup -/
def spCup (K : PySem.W.Frag) : Sp := fun vs H Q _ => ∃ (a : Addr) (ns : List Int), vs = [.ref a] ∧ SqL K H a (ns.map V.int) ∧ ns.length ≤ 63 ∧ ∀ H' p, Same H H' → H p = none → CupAt H' p → Q (.ref p) H'
def spLaw (K : PySem.W.Frag) (tb : List (Addr × Str)) : Sp := fun vs H Q _ => ∃ (a : Addr) (ns : List Int), vs = [.ref a] ∧ SqL K H a (ns.map V.int) ∧ ns.length ≤ 63 ∧ LamX.Tabs tb H ∧ ∀ H', Q (.bl true) H'
def lawPost : Fl → Prop
  | .rt (.bl true) => True
  | _ => False
def lawEnv (n i : Nat) : Env := (List.replicate n .no).set i (.frz .cup)
/-- the law's body behind its cup -/
theorem law_body {X : Cx} {tb : List (Addr × Str)} {W : WX} {st : Stmt} {rest : List Stmt} {h : Env → T Fl} {i : Nat} {Ec : L2.St → XK} {Q : VK} {a : Addr} {ns : List Int} {H : Hp} (hN : 0 < X.N.length) (hi : i < X.N.length) (hi0 : i ≠ 0)
    (hst : PS X st (tAsg (tCallS (spCup X.K) Ec (tCons (tVar 0) tNil)) (gName i))) (hb : QB X (tb0 tb) W rest h) (hS : SqL X.K H a (ns.map V.int)) (hl : ns.length ≤ 63) (ht : LamX.Tabs tb H) (hQ : ∀ H', Q (.bl true) H')
    (hw : (h (lawEnv X.N.length i)).wp lawPost fun _ => False) : ∃ t, PSs X (st :: rest) t ∧ t { nx := fun _ H' => Q .non H', rt := Q } (L2.start X.N [.ref a]) H := by
  obtain ⟨u, p2, i2⟩ := hb.ex
  refine ⟨_, pss_cons hst p2, ?_⟩
  refine ⟨.ref a, ?_, a, ns, rfl, hS, hl, fun H1 p sm np cp => ?_⟩
  · unfold L2.start
    rfl
  have hlen : (L2.start X.N [.ref a]).length = X.N.length := by unfold L2.start; simp; omega
  have noown : ∀ j b, ¬ OwnAt ((L2.start X.N [.ref a]).set i (some (.ref p))) (lawEnv X.N.length i) H1 j b := fun j b => by
    rintro (⟨⟨d, e⟩, _⟩ | ⟨⟨d, e⟩, _⟩)
    all_goals
      unfold lawEnv at e
      by_cases hj : j = i
      · subst hj; cases set_self_eq e
      · rw [List.getElem?_set_ne (fun z => hj z.symm), List.getElem?_replicate] at e
        split at e <;> cases e
  have E : ER (pgOf X (tb0 tb)) ⟨H1, fun b => b = p, fun b => b = p, fun _ z => z⟩ ((L2.start X.N [.ref a]).set i (some (.ref p))) (lawEnv X.N.length i) H1 := by
    obtain ⟨c, d, e, _⟩ := id cp
    refine ⟨by unfold lawEnv; simp [hlen], fun b o h _ _ => h, fun b h => h, fun b z => by rw [show b = p from z]; exact cp, fun q hq => (ht q hq).ext fun b o e => sm b o e, fun b z => (show b = p from z) ▸ ⟨_, e, fun _ => by simp⟩, fun j s hs => ?_, fun j k b h => (noown j b h).elim, fun j b h => (noown j b h).elim, fun t z => by cases z⟩
    unfold lawEnv at hs
    by_cases hj : j = i
    · subst hj
      cases set_self_eq hs
      refine ⟨.ref p, by rw [List.getElem?_set_self (by rw [hlen]; exact hi)], ?_⟩
      simp only [Rep]
      exact ⟨p, rfl, rfl⟩
    · rw [List.getElem?_set_ne (fun z => hj z.symm), List.getElem?_replicate] at hs
      split at hs <;> cases hs
      trivial
  refine i2 _ _ _ H1 _ E (T.wp_mono (fun fl q => ?_) (fun _ z => z.elim) hw)
  cases fl with
  | rt d =>
    cases d with
    | bl b =>
      cases b with
      | true =>
        intro v σ' e' H' _ _ r
        simp only [Rep] at r
        subst r
        exact hQ H'
      | false => exact q.elim
    | _ => exact q.elim
  | _ => exact q.elim
theorem cx_false {P : Program} {w : World} {l : List PySem.Env} {H : Hp} {s s' : Shared} {e : Value} (h : L2.CX P w l H s (fun _ _ _ => False) e s') : False := by
  obtain ⟨_, _, _, _, _, _, _, _, _, _, _, _, z⟩ := h
  exact z
theorem tabs_nil {H : Hp} : LamX.Tabs [] H := fun _ h => absurd h List.not_mem_nil
/-! ### all draws tried -/
def allB (f : Nat → Bool) : Nat → Bool
  | 0 => true
  | n + 1 => f n && allB f n
theorem allB_of {f : Nat → Bool} : ∀ {n : Nat}, allB f n = true → ∀ i, i < n → f i = true
  | 0, _, i, h => by omega
  | n + 1, h, i, hi => by
    simp only [allB, Bool.and_eq_true] at h
    by_cases e : i = n
    · subst e; exact h.1
    · exact allB_of h.2 i (by omega)
namespace T
def chk {α : Type} (f : α → Bool) : T α → Bool
  | .ret a => f a
  | .exc _ => false
  | .bad => false
  | .draw n k => Nat.ble 1 n && allB (fun i => (k i).chk f) n
theorem chk_wp {α : Type} {f : α → Bool} {Q : α → Prop} {E : Ex → Prop} (hf : ∀ a, f a = true → Q a) : ∀ {t : T α}, t.chk f = true → t.wp Q E
  | .ret a, h => hf a h
  | .exc _, h => by cases h
  | .bad, h => by cases h
  | .draw n k, h => by
    simp only [chk, Bool.and_eq_true] at h
    exact ⟨Nat.le_of_ble_eq_true h.1, fun i hi => chk_wp hf (allB_of h.2 i hi)⟩
end T
end MM

namespace MM
open PySem PySem.Spec L2
section
variable {X : Cx} {tb : Tb} {W : WX} {pos : Pos}
/-! ### comparisons, as values and as tests -/
def CmpOk (X : Cx) (tb : Tb) (op : CmpOp) (F : D → D → Option D) : Prop := ∃ r, OpR X (compareOp op) r ∧ R2I X tb r F
theorem cm_eq (hu : X.A.units + 64 < cLine) : CmpOk X tb .Eq eqD := ⟨_, op_eqD hu, r2_eq⟩
theorem cm_ne (hu : X.A.units + 64 < cLine) : CmpOk X tb .NotEq neD := ⟨_, op_neD hu, r2_ne⟩
theorem cm_lt : CmpOk X tb .Lt ltI := ⟨_, op_lt, r2_int0 fun _ _ _ _ _ => repB⟩
theorem cm_le : CmpOk X tb .LtE leI := ⟨_, op_le, r2_int0 fun _ _ _ _ _ => repB⟩
theorem cm_gt : CmpOk X tb .Gt gtI := ⟨_, op_gt, r2_int0 fun _ _ _ _ _ => repB⟩
theorem cm_ge : CmpOk X tb .GtE geI := ⟨_, op_ge, r2_int0 fun _ _ _ _ _ => repB⟩
theorem cm_in (hu : X.A.units + 65 < cLine) : CmpOk X tb .In inD := ⟨_, op_inAll hu, r2_in⟩
theorem cm_notIn (hu : X.A.units + 65 < cLine) : CmpOk X tb .NotIn notInD := ⟨_, op_notInAll hu, r2_notIn⟩
theorem cm_is : CmpOk X tb .Is isND := ⟨_, op_isN, r2_isN⟩
theorem cm_isNot : CmpOk X tb .IsNot isNND := ⟨_, op_notN, r2_isNN⟩
theorem qe_cm {op : CmpOp} {F : D → D → Option D} {a b : Expr} {f1 f2 : Env → T D} (c : CmpOk X tb op F) (h1 : QP X tb W a f1) (h2 : QP X tb W b f2) (hm : behindInMarks op b = false := by first | exact nomark _ | rfl) : QE X tb W (.Compare a [op] [b] pos) (e2 F f1 f2) := by
  obtain ⟨r, ho, hr⟩ := c
  exact qe_cmp ho hr h1 h2 hm
theorem qt_cm {op : CmpOp} {F : D → D → Option D} {a b : Expr} {f1 f2 : Env → T D} (c : CmpOk X tb op F) (h1 : QP X tb W a f1) (h2 : QP X tb W b f2) (hm : behindInMarks op b = false := by first | exact nomark _ | rfl) : QT X tb W (.Compare a [op] [b] pos) (tB (e2 F f1 f2)) := by
  obtain ⟨r, ho, hr⟩ := c
  obtain ⟨t1, p1, i1⟩ := h1.ex
  obtain ⟨t2, p2, i2⟩ := h2.ex
  refine ⟨_, pt_cmpR ho p1 p2 hm, fun g σ env H Q E hw => ?_⟩
  unfold tB at hw
  rw [T.wp_bind] at hw
  refine imp2 hr i1 i2 g σ env H _ E (T.wp_mono (fun x q vx H1 s1 r1 => ?_) (fun _ z => z) hw)
  cases hx : isBl x with
  | none => rw [hx] at q; exact q.elim
  | some b =>
    rw [hx] at q
    have := isBl_eq hx
    subst this
    simp only [Rep] at r1
    exact ⟨b, r1, q H1 s1⟩
/-- a bool's test is the value's -/
theorem qt_of {e : Expr} {f : Env → T D} {t : TE} (hp : PT X e (tTest t)) (hi : ImpE (pgOf X tb) W t f) : QT X tb W e (tB f) := by
  refine ⟨_, hp, fun g σ env H Q E hw => ?_⟩
  unfold tB at hw
  rw [T.wp_bind] at hw
  refine hi g σ env H _ E (T.wp_mono (fun x q vx H1 s1 r1 => ?_) (fun _ z => z) hw)
  cases hx : isBl x with
  | none => rw [hx] at q; exact q.elim
  | some b =>
    rw [hx] at q
    have := isBl_eq hx
    subst this
    simp only [Rep] at r1
    exact ⟨b, r1, q H1 s1⟩
theorem qt_chain {op op' : CmpOp} {F G : Int → Int → Bool} {a b c : Expr} {f1 f2 f3 : Env → T D} (ho : OpR X (compareOp op) (rI0 fun i j => .bl (F i j))) (ho' : OpR X (compareOp op') (rI0 fun i j => .bl (G i j)))
    (h1 : QP X tb W a f1) (h2 : QP X tb W b f2) (h3 : QP X tb W c f3) (hm : lastMarks [op, op'] [b, c] = false := by rfl) :
    QT X tb W (.Compare a [op, op'] [b, c] pos) (tB (e3 (iI (fun _ _ => true) fun i j => .bl (F i j)) (iI (fun _ _ => true) fun i j => .bl (G i j)) f1 f2 f3)) := by
  obtain ⟨t1, p1, i1⟩ := h1.ex
  obtain ⟨t2, p2, i2⟩ := h2.ex
  obtain ⟨t3, p3, i3⟩ := h3.ex
  exact qt_of (pt_chain ho ho' p1 p2 p3 hm) (imp_chain i1 i2 i3)
/-! -x -/
def negD : D → Option D
  | .int i => some (.int (-i))
  | _ => none
theorem qe_neg {a : Expr} {f : Env → T D} (h : QP X tb W a f) : QE X tb W (.UnaryOp .USub a pos) (e1 negD f) := by
  obtain ⟨t, h1, h2⟩ := h.ex
  refine ⟨_, pe_un un_neg h1, fun g σ env H Q E hw => ?_⟩
  unfold e1 at hw
  rw [T.wp_bind] at hw
  refine h2 g σ env H _ E (T.wp_mono (fun x q vx H1 s1 r1 => ?_) (fun _ z => z) hw)
  cases x with
  | int i => simp only [RepP, Rep] at r1; exact ⟨i, r1, q _ H1 s1 repI⟩
  | _ => exact q.elim
/-! x in range(a, b) -/
def eInR (neg : Bool) (f : Env → T D) (fa : Env → T (List D)) : Env → T D := fun env => (f env).bind fun x => (fa env).bind fun
  | [.int a, .int b] => (ofO (isInt x)).bind fun i => .ret (.bl (if neg then !(decide (a ≤ i) && decide (i < b)) else decide (a ≤ i) && decide (i < b)))
  | _ => .bad
theorem op_notIn_rng : OpR X (compareOp .NotIn) (fun x y H Q => ∃ i a lo hi, x = V.int i ∧ y = V.ref a ∧ H a = some (.rng lo hi) ∧ Q (.bl (!decide (lo ≤ i ∧ i < hi))) H) := by
  intro pins s σ H x y v u Q I rx ry h
  obtain ⟨i, a, lo, hi, rfl, rfl, ha, q⟩ := h
  obtain ⟨k, rfl⟩ := rx
  obtain rfl : u = Value.ref a := ry
  obtain ⟨t1, t2, t3, ho⟩ := I.hok a _ ha
  show wpAny _ _ (do return Value.bool (!(← contains (Value.ref a) (Value.int i k)))) _ _ s
  refine wpAny_bind (wpAny_contains_slot (T := "range") ⟨_, ho, rfl⟩ F.slot_range_contains (call_meets F.slot_range_contains ⟨_, ho, rfl⟩ F.entry_range_contains (F.args_range_contains_2 _ _) (q_contains a lo hi i t1 t2 t3 k)
    ⟨ho, wpAny_truthy_bool (wpAny_pure ⟨.bl _, H, I, rfl, ?_⟩)⟩))
  rw [place1]
  exact q
theorem imp_inR (neg : Bool) {t1 : TE} {ta : TA} {f : Env → T D} {fa : Env → T (List D)} (i1 : ImpP (pgOf X tb) W t1 f)
    (i2 : ∀ g σ env H (Q : List V → Hp → Prop), ER (pgOf X tb) g σ env H → (fa env).wp (fun ds => ∀ vs H', Step (pgOf X tb) g.C H H' → RepPs (pgOf X tb) g.C H' ds vs → Q vs H') (XP (pgOf X tb) g σ H W) → ta σ H Q) :
    ImpE (pgOf X tb) W (tOp (fun x y H Q => ∃ i a lo hi, x = V.int i ∧ y = V.ref a ∧ H a = some (.rng lo hi) ∧ Q (.bl (if neg then !decide (lo ≤ i ∧ i < hi) else decide (lo ≤ i ∧ i < hi))) H) t1 (tCB (fun vs H Q => ∃ i j, vs = [V.int i, V.int j] ∧ ∀ p, H p = none → Q (.ref p) (upd H p (.rng i j))) ta)) (eInR neg f fa) := fun g σ env H Q E hw => by
  unfold eInR at hw
  rw [T.wp_bind] at hw
  refine i1 g σ env H _ E (T.wp_mono (fun x q vx H1 s1 r1 => ?_) (fun _ z => z) hw)
  rw [T.wp_bind] at q
  have E1 := E.step s1
  refine i2 g σ env H1 _ E1 (T.wp_mono (fun xs q vs H2 s2 r2 => ?_) (wpStep s1) q)
  split at q
  · rename_i a b
    obtain ⟨v, w, rfl, ra, rb⟩ := rep2 r2
    simp only [RepP, Rep] at ra rb
    subst ra rb
    have E2 := E1.step s2
    refine ⟨a, b, rfl, fun p hp => ?_⟩
    cases x with
    | int i =>
      simp only [RepP, Rep] at r1
      subst r1
      have st := E2.alloc (o := .rng a b) hp
      refine ⟨i, p, a, b, rfl, rfl, upd_same, ?_⟩
      have e : decide (a ≤ i ∧ i < b) = (decide (a ≤ i) && decide (i < b)) := by simp
      rw [e]
      exact q _ _ (s1.trans (s2.trans st)) repB
    | _ => exact q.elim
  · exact q.elim
theorem qe_inR {a e1 e2' : Expr} {p rp : Pos} {f : Env → T D} {fa : Env → T (List D)} (h1 : QP X tb W a f) (hg : Gl X "range") (hm : X.mg "range" = none) (ha : QAP X tb W [e1, e2'] fa) (hs : starEach [e1, e2'] X.env = (false, eval e1 X.env) :: starEach [e2'] X.env := by rfl) (hpl : (backTo rp (starEach [e2'] X.env)).any (·.1) = false := by rfl) :
    QE X tb W (.Compare a [.In] [.Call (.Name "range" p) [e1, e2'] [] rp] pos) (eInR false f fa) := by
  obtain ⟨t1, p1, i1⟩ := h1.ex
  obtain ⟨t2, p2, i2⟩ := ha.ex
  exact ⟨_, pe_cmpR op_in_rng p1 (pe_callTy cr_range2 hg hm (by decide +kernel) p2 (by decide) (by decide) hs hpl) (by rfl), imp_inR false i1 i2⟩
theorem qe_notInR {a e1 e2' : Expr} {p rp : Pos} {f : Env → T D} {fa : Env → T (List D)} (h1 : QP X tb W a f) (hg : Gl X "range") (hm : X.mg "range" = none) (ha : QAP X tb W [e1, e2'] fa) (hs : starEach [e1, e2'] X.env = (false, eval e1 X.env) :: starEach [e2'] X.env := by rfl) (hpl : (backTo rp (starEach [e2'] X.env)).any (·.1) = false := by rfl) :
    QE X tb W (.Compare a [.NotIn] [.Call (.Name "range" p) [e1, e2'] [] rp] pos) (eInR true f fa) := by
  obtain ⟨t1, p1, i1⟩ := h1.ex
  obtain ⟨t2, p2, i2⟩ := ha.ex
  exact ⟨_, pe_cmpR op_notIn_rng p1 (pe_callTy cr_range2 hg hm (by decide +kernel) p2 (by decide) (by decide) hs hpl) (by rfl), imp_inR true i1 i2⟩
theorem qt_inR {a e1 e2' : Expr} {p rp : Pos} {f : Env → T D} {fa : Env → T (List D)} (h1 : QP X tb W a f) (hg : Gl X "range") (hm : X.mg "range" = none) (ha : QAP X tb W [e1, e2'] fa) (hs : starEach [e1, e2'] X.env = (false, eval e1 X.env) :: starEach [e2'] X.env := by rfl) (hpl : (backTo rp (starEach [e2'] X.env)).any (·.1) = false := by rfl) :
    QT X tb W (.Compare a [.In] [.Call (.Name "range" p) [e1, e2'] [] rp] pos) (tB (eInR false f fa)) := by
  obtain ⟨t1, p1, i1⟩ := h1.ex
  obtain ⟨t2, p2, i2⟩ := ha.ex
  exact qt_of (pt_cmpR op_in_rng p1 (pe_callTy cr_range2 hg hm (by decide +kernel) p2 (by decide) (by decide) hs hpl) (by rfl)) (imp_inR false i1 i2)
theorem qt_notInR {a e1 e2' : Expr} {p rp : Pos} {f : Env → T D} {fa : Env → T (List D)} (h1 : QP X tb W a f) (hg : Gl X "range") (hm : X.mg "range" = none) (ha : QAP X tb W [e1, e2'] fa) (hs : starEach [e1, e2'] X.env = (false, eval e1 X.env) :: starEach [e2'] X.env := by rfl) (hpl : (backTo rp (starEach [e2'] X.env)).any (·.1) = false := by rfl) :
    QT X tb W (.Compare a [.NotIn] [.Call (.Name "range" p) [e1, e2'] [] rp] pos) (tB (eInR true f fa)) := by
  obtain ⟨t1, p1, i1⟩ := h1.ex
  obtain ⟨t2, p2, i2⟩ := ha.ex
  exact qt_of (pt_cmpR op_notIn_rng p1 (pe_callTy cr_range2 hg hm (by decide +kernel) p2 (by decide) (by decide) hs hpl) (by rfl)) (imp_inR true i1 i2)
end
end MM

namespace MM
open PySem PySem.Spec L2

/-! ### reckoning with mirrors -/
theorem T.bind_ret {α β : Type} (a : α) (f : α → T β) : (T.ret a).bind f = f a := rfl
theorem T.bind_bad {α β : Type} (f : α → T β) : (T.bad : T α).bind f = .bad := rfl
theorem T.bind_exc {α β : Type} (e : Ex) (f : α → T β) : (T.exc e : T α).bind f = .exc e := rfl
theorem T.wp_ret {α : Type} (a : α) (Q : α → Prop) (E : Ex → Prop) : (T.ret a).wp Q E ↔ Q a := Iff.rfl
theorem T.noX_ret {α : Type} (a : α) : (T.ret a).noX = .ret a := rfl
theorem T.bind_assoc {α β γ : Type} {f : α → T β} {g : β → T γ} : ∀ {t : T α}, (t.bind f).bind g = t.bind fun a => (f a).bind g
  | .ret _ => rfl
  | .exc _ => rfl
  | .bad => rfl
  | .draw n k => by
    show T.draw n (fun i => ((k i).bind f).bind g) = T.draw n fun i => (k i).bind fun a => (f a).bind g
    congr 1
    funext i
    exact T.bind_assoc
theorem ofO_some {α : Type} (a : α) : ofO (some a) = .ret a := rfl
section
variable {Q : Fl → Prop} {E : Ex → Prop} {env : Env} {a b : Env → T Fl}
theorem seq_wp (h : (a env).wp (fun fl => match fl with | .nx e => (b e).wp Q E | f => Q f) E) : (sSeq a b env).wp Q E := by
  unfold sSeq
  rw [T.wp_bind]
  refine T.wp_mono (fun fl q => ?_) (fun _ z => z) h
  cases fl <;> exact q
theorem seq_eq {e' : Env} (h : a env = .ret (.nx e')) : sSeq a b env = b e' := by
  unfold sSeq
  rw [h]
  rfl
theorem seq_rt {d : D} (h : a env = .ret (.rt d)) : sSeq a b env = .ret (.rt d) := by
  unfold sSeq
  rw [h]
  rfl
theorem seq_go {e' : Env} (h1 : a env = .ret (.nx e')) (h2 : (b e').wp Q E) : (sSeq a b env).wp Q E := by
  rw [seq_eq h1]
  exact h2
theorem for_go {tgt : D → Env → Option Env} {body : Env → T Fl} {it : Env → T (List D)} {ds : List D} (h1 : it env = .ret ds) (h2 : (forL tgt body ds env).wp Q E) : (sFor it tgt body env).wp Q E := by
  unfold sFor
  rw [h1]
  exact h2
theorem wp_of {α : Type} {t : T α} {a : α} {Q : α → Prop} {E : Ex → Prop} (h : t = .ret a) (q : Q a) : t.wp Q E := by
  rw [h]; exact q
theorem for_wp {tgt : D → Env → Option Env} {body : Env → T Fl} {it : Env → T (List D)} (h : (it env).wp (fun ds => (forL tgt body ds env).wp Q E) E) : (sFor it tgt body env).wp Q E := by
  unfold sFor
  rw [T.wp_bind]
  exact h
/-- a loop by what holds between its turns -/
theorem forL_inv {tgt : D → Env → Option Env} {body : Env → T Fl} (I : Env → Prop) : ∀ {ds : List D} {env : Env}, I env →
    (∀ d ∈ ds, ∀ e, I e → ∃ e', tgt d e = some e' ∧ (body e').wp (fun | .nx e => I e | .ct e => I e | .bk e => Q (.nx e) | .rt v => Q (.rt v)) E) → (∀ e, I e → Q (.nx e)) → (forL tgt body ds env).wp Q E
  | [], env, h0, _, hd => hd env h0
  | d :: ds, env, h0, ht, hd => by
    obtain ⟨e', h1, h2⟩ := ht d List.mem_cons_self env h0
    show ((ofO (tgt d env)).bind _).wp Q E
    rw [h1]
    show ((body e').bind _).wp Q E
    rw [T.wp_bind]
    refine T.wp_mono (fun fl q => ?_) (fun _ z => z) h2
    cases fl with
    | nx e => exact forL_inv I q (fun d' hd' => ht d' (List.mem_cons_of_mem _ hd')) hd
    | ct e => exact forL_inv I q (fun d' hd' => ht d' (List.mem_cons_of_mem _ hd')) hd
    | bk e => exact q
    | rt v => exact q
end
section
variable {Q : Fl → Prop} {E : Ex → Prop}
/-- .. with the turns counted -/
theorem forL_inv2 {tgt : D → Env → Option Env} {body : Env → T Fl} (I : Nat → Env → Prop) : ∀ {ds : List D} {env : Env} {k : Nat}, I k env →
    (∀ i d, ds[i]? = some d → ∀ e, I (k + i) e → ∃ e', tgt d e = some e' ∧ (body e').wp (fun | .nx e => I (k + i + 1) e | .ct e => I (k + i + 1) e | .bk e => Q (.nx e) | .rt v => Q (.rt v)) E) → (∀ e, I (k + ds.length) e → Q (.nx e)) → (forL tgt body ds env).wp Q E
  | [], env, k, h0, _, hd => hd env h0
  | d :: ds, env, k, h0, ht, hd => by
    obtain ⟨e', h1, h2⟩ := ht 0 d rfl env h0
    show ((ofO (tgt d env)).bind _).wp Q E
    rw [h1]
    show ((body e').bind _).wp Q E
    rw [T.wp_bind]
    have next : ∀ e, I (k + 0 + 1) e → (forL tgt body ds e).wp Q E := fun e q => forL_inv2 I (k := k + 1) q (fun i d' hd' e he => by
      have := ht (i + 1) d' (by simpa using hd') e (by rw [show k + (i + 1) = k + 1 + i by omega]; exact he)
      rw [show k + (i + 1) + 1 = k + 1 + i + 1 by omega] at this
      exact this) fun e he => hd e (by rw [List.length_cons, show k + (ds.length + 1) = k + 1 + ds.length by omega]; exact he)
    refine T.wp_mono (fun fl q => ?_) (fun _ z => z) h2
    cases fl with
    | nx e => exact next e q
    | ct e => exact next e q
    | bk e => exact q
    | rt v => exact q
end
/-- a loop, then the rest -/
theorem seq_for {Q : Fl → Prop} {E : Ex → Prop} {tgt : D → Env → Option Env} {body b : Env → T Fl} {it : Env → T (List D)} {ds : List D} {env : Env} (h1 : it env = .ret ds) (I : Env → Prop) (h0 : I env)
    (ht : ∀ d ∈ ds, ∀ e, I e → ∃ e', tgt d e = some e' ∧ (body e').wp (fun | .nx e => I e | .ct e => I e | .bk e => (b e).wp Q E | .rt v => Q (.rt v)) E) (hd : ∀ e, I e → (b e).wp Q E) : (sSeq (sFor it tgt body) b env).wp Q E := by
  refine seq_wp (for_go h1 (forL_inv I h0 (fun d hd' e he => ?_) fun e he => hd e he))
  obtain ⟨e', a1, a2⟩ := ht d hd' e he
  exact ⟨e', a1, T.wp_mono (fun fl q => by cases fl <;> exact q) (fun _ z => z) a2⟩
theorem seq_for2 {P : List D → Prop} {Q : Fl → Prop} {E : Ex → Prop} {tgt : D → Env → Option Env} {body b : Env → T Fl} {it : Env → T (List D)} {env : Env} (h1 : ∀ Q', (∀ ds, P ds → Q' ds) → (it env).wp Q' E) (I : Nat → Env → Prop) (h0 : I 0 env)
    (ht : ∀ ds, P ds → ∀ i d, ds[i]? = some d → ∀ e, I i e → ∃ e', tgt d e = some e' ∧ (body e').wp (fun | .nx e => I (i + 1) e | .ct e => I (i + 1) e | .bk e => (b e).wp Q E | .rt v => Q (.rt v)) E) (hd : ∀ ds, P ds → ∀ e, I ds.length e → (b e).wp Q E) : (sSeq (sFor it tgt body) b env).wp Q E := by
  refine seq_wp (for_wp (h1 _ fun ds hp => ?_))
  refine forL_inv2 (k := 0) I h0 (fun i d hdi e he => ?_) (fun e he => hd ds hp e (by simpa using he))
  rw [Nat.zero_add] at he
  obtain ⟨e', a1, a2⟩ := ht ds hp i d hdi e he
  refine ⟨e', a1, T.wp_mono (fun fl q => ?_) (fun _ z => z) a2⟩
  rw [Nat.zero_add]
  cases fl <;> exact q
theorem addD_str {s t : List Nat} (h : s.length + t.length ≤ 16777216) : addD (.str s) (.str t) = some (.str (s ++ t)) := by
  simp only [addD, if_pos h]
theorem addD_lst {s t : List D} (h : s.length + t.length ≤ 16777216) : addD (.lst s) (.lst t) = some (.lst (s ++ t)) := by
  simp only [addD, if_pos h]
theorem addD_tup {s t : List D} (h : s.length + t.length ≤ 16777216) : addD (.tup s) (.tup t) = some (.tup (s ++ t)) := by
  simp only [addD, if_pos h]
/-- a comprehension, reckoned -/
theorem compL_eq {tgt : D → Env → Option Env} {cond : Env → T Bool} {elt : Env → T D} {env0 : Env} (c : D → Bool) (g : D → D) : ∀ {ds : List D},
    (∀ d ∈ ds, ∃ e, tgt d env0 = some e ∧ cond e = .ret (c d) ∧ (c d = true → elt e = .ret (g d))) → compL tgt cond elt env0 ds = .ret ((ds.filter c).map g)
  | [], _ => rfl
  | d :: ds, h => by
    obtain ⟨e, h1, h2, h3⟩ := h d List.mem_cons_self
    have ih := compL_eq c g (ds := ds) fun d' hd' => h d' (List.mem_cons_of_mem _ hd')
    simp only [compL, h1, ofO_some, T.bind_ret, h2, T.noX_ret]
    cases hc : c d with
    | true => simp only [if_true, h3 hc, T.noX_ret, T.bind_ret, ih, List.filter_cons, hc, List.map_cons]
    | false => simp [ih, List.filter_cons, hc]
theorem compL_map {tgt : D → Env → Option Env} {elt : Env → T D} {env0 : Env} (g : D → D) {ds : List D} (h : ∀ d ∈ ds, ∃ e, tgt d env0 = some e ∧ elt e = .ret (g d)) : compL tgt tYesB elt env0 ds = .ret (ds.map g) := by
  have := compL_eq (tgt := tgt) (cond := tYesB) (elt := elt) (env0 := env0) (fun _ => true) g (ds := ds) fun d hd => by
    obtain ⟨e, h1, h2⟩ := h d hd
    exact ⟨e, h1, rfl, fun _ => h2⟩
  rw [this, List.filter_eq_self.mpr (fun _ _ => rfl)]
/-- draws aside: a comprehension of which only what each item gives is known -/
theorem compL_wp {tgt : D → Env → Option Env} {cond : Env → T Bool} {elt : Env → T D} {env0 : Env} {E : Ex → Prop} (P : D → Prop) : ∀ {ds : List D} {Q : List D → Prop},
    (∀ d ∈ ds, ∃ e, tgt d env0 = some e ∧ (cond e).noX.wp (fun b => b = true → (elt e).noX.wp P E) E) → (∀ ys, (∀ y ∈ ys, P y) → ys.length ≤ ds.length → Q ys) → (compL tgt cond elt env0 ds).wp Q E
  | [], Q, _, hq => hq [] (fun _ h => absurd h List.not_mem_nil) (Nat.le_refl _)
  | d :: ds, Q, h, hq => by
    obtain ⟨e, h1, h2⟩ := h d List.mem_cons_self
    simp only [compL, h1, ofO_some, T.bind_ret]
    rw [T.wp_bind]
    refine T.wp_mono (fun b hb => ?_) (fun _ z => z) h2
    cases b with
    | true =>
      rw [if_pos rfl, T.wp_bind]
      refine T.wp_mono (fun y hy => ?_) (fun _ z => z) (hb rfl)
      rw [T.wp_bind]
      refine compL_wp P (fun d' hd' => h d' (List.mem_cons_of_mem _ hd')) fun ys h1 h2 => hq (y :: ys) (fun z hz => ?_) (by simp; omega)
      rcases List.mem_cons.mp hz with rfl | hz
      · exact hy
      · exact h1 z hz
    | false =>
      rw [if_neg (by simp)]
      exact compL_wp P (fun d' hd' => h d' (List.mem_cons_of_mem _ hd')) fun ys h1 h2 => hq ys h1 (by simp; omega)

/-! ### the law's common helpers -/
def b_some : Env → T Fl := (sRet (e2 ixD (eVar 1) (eFn 2 rollM (aCons (eVar 0) (aCons (eCall lenD (aCons (eVar 1) aNil)) aNil)))))
def m_some : List D → T D := runB 2 b_some
theorem roll_wp {n : Int} {Q : D → Prop} {E : Ex → Prop} (h0 : 0 < n) (h1 : n < 1073741824) (h : ∀ i : Nat, (i : Int) < n → Q (.int i)) : (rollM [.cup, .int n]).wp Q E := by
  show (if 0 < n ∧ n < 1073741824 then T.draw n.toNat fun i => T.ret (D.int i) else T.bad).wp Q E
  rw [if_pos ⟨h0, h1⟩]
  exact ⟨by omega, fun i hi => h i (by omega)⟩
theorem some_seq {x : D} {n : Nat} {Q : D → Prop} {E : Ex → Prop} (hl : lenD [x] = some (.int n)) (h0 : 0 < n) (h1 : n ≤ 16777216) (h : ∀ i : Nat, i < n → ∃ d, ixD x (.int i) = some d ∧ Q d) : (m_some [.cup, x]).wp Q E := by
  have ea : (aCons (eVar 0) (aCons (eCall lenD (aCons (eVar 1) aNil)) aNil)) [.frz .cup, .frz x] = .ret [.cup, .int n] := by
    have e1 : (eCall lenD (aCons (eVar 1) aNil)) [.frz .cup, .frz x] = .ret (.int n) := by
      show ofO (lenD [x]) = _
      rw [hl]
      rfl
    show (T.ret D.cup).bind (fun a => ((eCall lenD (aCons (eVar 1) aNil)) [.frz .cup, .frz x]).bind (fun b => (T.ret ([] : List D)).bind fun xs => .ret (b :: xs)) |>.bind fun xs => .ret (a :: xs)) = _
    rw [e1]
    rfl
  have ef : (eFn 2 rollM (aCons (eVar 0) (aCons (eCall lenD (aCons (eVar 1) aNil)) aNil))) [.frz .cup, .frz x] = rollM [.cup, .int n] := by
    unfold eFn
    rw [ea]
    rfl
  have eb : b_some [.frz .cup, .frz x] = (rollM [.cup, .int n]).bind fun y => (ofO (ixD x y)).bind fun d => .ret (.rt d) := by
    have h1 : b_some [.frz .cup, .frz x] = (((eFn 2 rollM (aCons (eVar 0) (aCons (eCall lenD (aCons (eVar 1) aNil)) aNil))) [.frz .cup, .frz x]).bind fun y => ofO (ixD x y)).bind fun d => .ret (Fl.rt d) := rfl
    rw [h1, ef, T.bind_assoc]
  show ((b_some [.frz .cup, .frz x]).bind _).wp Q E
  rw [eb, T.wp_bind, T.wp_bind]
  refine roll_wp (by omega) (by omega) fun i hi => ?_
  obtain ⟨d, hd, hq⟩ := h i (by omega)
  rw [hd]
  exact hq
theorem ixN_nat {n i : Nat} (h : i < n) : ixN n (i : Int) = some i := by
  unfold ixN
  rw [if_pos (by omega), if_pos (by omega)]
  simp
theorem some_str {s : List Nat} {Q : D → Prop} {E : Ex → Prop} (h0 : s ≠ []) (h1 : s.length ≤ 16777216) (h : ∀ c ∈ s, Q (.str [c])) : (m_some [.cup, .str s]).wp Q E := by
  refine some_seq (n := s.length) rfl (List.length_pos_iff.mpr h0) h1 fun i hi => ⟨.str [s[i]], ?_, h _ (List.getElem_mem hi)⟩
  simp only [ixD, ixN_nat hi, Option.bind_some, List.getElem?_eq_getElem hi, Option.map_some]
theorem some_lst {s : List D} {Q : D → Prop} {E : Ex → Prop} (h0 : s ≠ []) (h1 : s.length ≤ 16777216) (h : ∀ c ∈ s, Q c) : (m_some [.cup, .lst s]).wp Q E := by
  refine some_seq (n := s.length) rfl (List.length_pos_iff.mpr h0) h1 fun i hi => ⟨s[i], ?_, h _ (List.getElem_mem hi)⟩
  simp only [ixD, ixN_nat hi, Option.bind_some, List.getElem?_eq_getElem hi]
theorem some_tup {s : List D} {Q : D → Prop} {E : Ex → Prop} (h0 : s ≠ []) (h1 : s.length ≤ 16777216) (h : ∀ c ∈ s, Q c) : (m_some [.cup, .tup s]).wp Q E := by
  refine some_seq (n := s.length) rfl (List.length_pos_iff.mpr h0) h1 fun i hi => ⟨s[i], ?_, h _ (List.getElem_mem hi)⟩
  simp only [ixD, ixN_nat hi, Option.bind_some, List.getElem?_eq_getElem hi]
def b_sort : Env → T Fl :=
  (sSeq (sIf (tOr (tB (e2 isND (eVar 0) (eC .non))) (tB (e1 (isiD "bool") (eVar 0)))) (sRet (eIf (tB (e2 isND (eVar 0) (eC .non))) (eC (.int 0)) (eC (.int 1)))) sNx)
    (sSeq (sIf (tOr (tB (e1 (isiD "int") (eVar 0))) (tB (e1 (isiD "str") (eVar 0)))) (sRet (eIf (tB (e1 (isiD "int") (eVar 0))) (eC (.int 2)) (eC (.int 3)))) sNx)
    (sRet (eIf (tB (e1 (isiD "tuple") (eVar 0))) (eC (.int 4)) (eIf (tB (e1 (isiD "list") (eVar 0))) (eC (.int 5)) (eC (.int 6)))))))
def m_sort : List D → T D := runB 1 b_sort
def b_like (rec : List D → T D) : Env → T Fl :=
  (sSeq (sSet 2 (eFn 1 m_sort (aCons (eVar 1) aNil)))
    (sSeq (sIf (tOr (tB (e2 neD (eFn 1 m_sort (aCons (eVar 0) aNil)) (eVar 2))) (tB (e2 eqD (eVar 2) (eC (.int 6))))) (sRet (eC (.bl false))) sNx)
    (sSeq (sIf (tB (e2 inD (eVar 2) (eTup (aCons (eC (.int 4)) (aCons (eC (.int 5)) aNil))))) (sRet (eAnd (e2 eqD (eCall lenD (aCons (eVar 0) aNil)) (eCall lenD (aCons (eVar 1) aNil))) (e2 eqD (eComp (iArg zipD (aCons (eVar 0) (aCons (eVar 1) aNil))) [3, 4] (sTup [3, 4]) (tNot (tB (eFn 2 rec (aCons (eVar 3) (aCons (eVar 4) aNil))))) (eC (.int 1))) (eLst aNil)))) sNx)
    (sRet (e2 eqD (eVar 0) (eVar 1))))))
def r_like : Nat → List D → T D
  | 0 => fun _ => .bad
  | k + 1 => runB 5 (b_like (r_like k))
def kind : D → Option Int
  | .non => some 0 | .bl _ => some 1 | .int _ => some 2 | .str _ => some 3 | .tup _ => some 4 | .lst _ => some 5 | .dic _ => some 6 | _ => none
theorem sort_eq {d : D} {k : Int} (h : kind d = some k) : m_sort [d] = .ret (.int k) := by
  cases d <;> cases h <;> rfl
mutual
/-- equal, the kinds of all parts too -/
def likeB : D → D → Bool
  | .non, .non => true
  | .bl a, .bl b => a == b
  | .int a, .int b => decide (a = b)
  | .str a, .str b => eqNats a b
  | .tup a, .tup b => likeL a b
  | .lst a, .lst b => likeL a b
  | _, _ => false
def likeL : List D → List D → Bool
  | [], [] => true
  | x :: xs, y :: ys => likeB x y && likeL xs ys
  | _, _ => false
end
mutual
theorem okN_mono : ∀ {n m : Nat} {d : D}, n ≤ m → d.okN n = true → d.okN m = true
  | n, m, d, h, hd => by
    cases d with
    | lst xs =>
      cases n with
      | zero => simp [D.okN] at hd
      | succ n =>
        cases m with
        | zero => omega
        | succ m => simp only [D.okN] at hd ⊢; exact okNL_mono (by omega) hd
    | tup xs =>
      cases n with
      | zero => simp [D.okN] at hd
      | succ n =>
        cases m with
        | zero => omega
        | succ m => simp only [D.okN] at hd ⊢; exact okNL_mono (by omega) hd
    | _ => simpa [D.okN] using hd
theorem okNL_mono : ∀ {n m : Nat} {ds : List D}, n ≤ m → okNL n ds = true → okNL m ds = true
  | _, _, [], _, _ => by simp [okNL]
  | n, m, d :: ds, h, hd => by
    simp only [okNL, Bool.and_eq_true] at hd ⊢
    exact ⟨okN_mono h hd.1, okNL_mono h hd.2⟩
end
theorem okNL_mem {n : Nat} : ∀ {ds : List D} {d : D}, okNL n ds = true → d ∈ ds → d.okN n = true
  | x :: ds, d, h, hd => by
    simp only [okNL, Bool.and_eq_true] at h
    rcases List.mem_cons.mp hd with rfl | hd
    · exact h.1
    · exact okNL_mem h.2 hd
theorem okNL_of {n : Nat} : ∀ {ds : List D}, (∀ d ∈ ds, d.okN n = true) → okNL n ds = true
  | [], _ => by simp [okNL]
  | d :: ds, h => by simp only [okNL, Bool.and_eq_true]; exact ⟨h d List.mem_cons_self, okNL_of fun x hx => h x (List.mem_cons_of_mem _ hx)⟩
def badPair : D → Bool
  | .tup [a, b] => !likeB a b
  | _ => false
theorem likeL_zip : ∀ {xs ys : List D}, xs.length = ys.length → (((zipL xs ys).filter badPair).map (fun _ => D.int 1) = [] ↔ likeL xs ys = true)
  | [], [], _ => by simp [zipL, likeL]
  | x :: xs, y :: ys, h => by
    have ih := likeL_zip (xs := xs) (ys := ys) (by simpa using h)
    simp only [zipL, List.filter_cons, badPair, likeL, Bool.and_eq_true]
    by_cases hb : likeB x y = true
    · simp only [hb, Bool.not_true, Bool.false_eq_true, if_false, true_and]; exact ih
    · simp [hb]
  | [], _ :: _, h => by simp at h
  | _ :: _, [], h => by simp at h
theorem likeL_len : ∀ {xs ys : List D}, likeL xs ys = true → xs.length = ys.length
  | [], [], _ => rfl
  | x :: xs, y :: ys, h => by
    simp only [likeL, Bool.and_eq_true] at h
    simp [likeL_len h.2]
  | [], _ :: _, h => by simp [likeL] at h
  | _ :: _, [], h => by simp [likeL] at h
theorem eqD_int (i j : Int) : eqD (.int i) (.int j) = some (.bl (decide (i = j))) := rfl
theorem eqD_ones {l : List D} (h : ∀ d ∈ l, d = D.int 1) : eqD (.lst l) (.lst []) = some (.bl (decide (l = []))) := by
  have h1 : D.okN 64 (.lst l) = true := by
    simp only [D.okN]
    exact okNL_of fun d hd => by rw [h d hd]; rfl
  unfold eqD
  rw [h1, show D.okN 64 (.lst []) = true from rfl]
  cases l with
  | nil => rfl
  | cons a l => simp [D.eqv, eqvL]
theorem like_seq {k : Nat} {s : Bool} {xs ys : List D} (ih : ∀ x y, x ∈ xs → y ∈ ys → r_like k [x, y] = .ret (.bl (likeB x y))) :
    r_like (k + 1) [if s then .tup xs else .lst xs, if s then .tup ys else .lst ys] = .ret (.bl (likeL xs ys)) := by
  have key : ∀ (a b : D) (t : D), lenD [a] = some (.int xs.length) → lenD [b] = some (.int ys.length) → zipD [a, b] = some (zipL xs ys) →
      (eAnd (e2 eqD (eCall lenD (aCons (eVar 0) aNil)) (eCall lenD (aCons (eVar 1) aNil))) (e2 eqD (eComp (iArg zipD (aCons (eVar 0) (aCons (eVar 1) aNil))) [3, 4] (sTup [3, 4]) (tNot (tB (eFn 2 (r_like k) (aCons (eVar 3) (aCons (eVar 4) aNil))))) (eC (.int 1))) (eLst aNil)))
        [.frz a, .frz b, .frz t, .no, .no] = .ret (.bl (likeL xs ys)) := fun a b t h1 h2 h3 => by
    have e1 : (e2 eqD (eCall lenD (aCons (eVar 0) aNil)) (eCall lenD (aCons (eVar 1) aNil))) [.frz a, .frz b, .frz t, .no, .no] = .ret (.bl (decide ((xs.length : Int) = ys.length))) := by
      have e0 : (e2 eqD (eCall lenD (aCons (eVar 0) aNil)) (eCall lenD (aCons (eVar 1) aNil))) [.frz a, .frz b, .frz t, .no, .no] = (ofO (lenD [a])).bind (fun x => (ofO (lenD [b])).bind fun y => ofO (eqD x y)) := by kernel_rfl
      rw [e0, h1, h2]
      kernel_rfl
    have e3 : (eComp (iArg zipD (aCons (eVar 0) (aCons (eVar 1) aNil))) [3, 4] (sTup [3, 4]) (tNot (tB (eFn 2 (r_like k) (aCons (eVar 3) (aCons (eVar 4) aNil))))) (eC (.int 1))) [.frz a, .frz b, .frz t, .no, .no] = .ret (.lst (((zipL xs ys).filter badPair).map fun _ => D.int 1)) := by
      have e0 : (eComp (iArg zipD (aCons (eVar 0) (aCons (eVar 1) aNil))) [3, 4] (sTup [3, 4]) (tNot (tB (eFn 2 (r_like k) (aCons (eVar 3) (aCons (eVar 4) aNil))))) (eC (.int 1))) [.frz a, .frz b, .frz t, .no, .no] = (ofO (zipD [a, b])).bind (fun ds => (compL (sTup [3, 4]) (tNot (tB (eFn 2 (r_like k) (aCons (eVar 3) (aCons (eVar 4) aNil))))) (eC (.int 1)) [.frz a, .frz b, .frz t, .no, .no] ds).bind fun ys => .ret (D.lst ys)) := by kernel_rfl
      rw [e0, h3, ofO_some, T.bind_ret, compL_eq badPair (fun _ => D.int 1)]
      · rfl
      · intro d hd
        obtain ⟨i, hi, e⟩ := List.getElem_of_mem hd
        have hg : (zipL xs ys)[i]? = some d := by rw [List.getElem?_eq_getElem hi, e]
        obtain ⟨x, y, hx, hy, rfl⟩ := zipL_get hg
        refine ⟨[.frz a, .frz b, .frz t, .frz x, .frz y], rfl, ?_, fun _ => rfl⟩
        have e4 : (tNot (tB (eFn 2 (r_like k) (aCons (eVar 3) (aCons (eVar 4) aNil))))) [.frz a, .frz b, .frz t, .frz x, .frz y] = ((r_like k [x, y]).bind fun x => ofO (isBl x)).bind (fun b => .ret (!b)) := by kernel_rfl
        rw [e4, ih x y (List.mem_of_getElem? hx) (List.mem_of_getElem? hy)]
        rfl
    unfold eAnd
    rw [e1, T.bind_ret]
    show (if decide ((xs.length : Int) = ys.length) = true then _ else T.ret (D.bl false)) = _
    by_cases hl : xs.length = ys.length
    · rw [if_pos (by simp [hl])]
      unfold e2
      rw [e3, T.bind_ret]
      show ofO (eqD (.lst _) (.lst [])) = _
      rw [eqD_ones (fun d hd => by
        obtain ⟨_, _, h⟩ := List.mem_map.mp hd
        exact h.symm), ofO_some]
      congr 2
      cases hL : likeL xs ys with
      | true => exact decide_eq_true ((likeL_zip hl).mpr hL)
      | false => exact decide_eq_false fun z => by rw [(likeL_zip hl).mp z] at hL; cases hL
    · rw [if_neg (by simp; omega)]
      cases hL : likeL xs ys with
      | true => exact absurd (likeL_len hL) hl
      | false => rfl
  cases s with
  | true =>
    have := key (.tup xs) (.tup ys) (.int 4) rfl rfl rfl
    have h3 : r_like (k + 1) [.tup xs, .tup ys] = (b_like (r_like k) [.frz (.tup xs), .frz (.tup ys), .no, .no, .no]).bind (fun | .nx _ => .ret .non | .rt d => .ret d | _ => .bad) := by kernel_rfl
    have h2 : b_like (r_like k) [.frz (.tup xs), .frz (.tup ys), .no, .no, .no] = (((eAnd (e2 eqD (eCall lenD (aCons (eVar 0) aNil)) (eCall lenD (aCons (eVar 1) aNil))) (e2 eqD (eComp (iArg zipD (aCons (eVar 0) (aCons (eVar 1) aNil))) [3, 4] (sTup [3, 4]) (tNot (tB (eFn 2 (r_like k) (aCons (eVar 3) (aCons (eVar 4) aNil))))) (eC (.int 1))) (eLst aNil)))
        [.frz (.tup xs), .frz (.tup ys), .frz (.int 4), .no, .no]).bind (fun d => .ret (Fl.rt d))).bind (fun | .nx e => (sRet (e2 eqD (eVar 0) (eVar 1))) e | f => .ret f) := by kernel_rfl
    refine Eq.trans (by kernel_rfl) (h3.trans ?_)
    rw [h2, this]
    kernel_rfl
  | false =>
    have := key (.lst xs) (.lst ys) (.int 5) rfl rfl rfl
    have h3 : r_like (k + 1) [.lst xs, .lst ys] = (b_like (r_like k) [.frz (.lst xs), .frz (.lst ys), .no, .no, .no]).bind (fun | .nx _ => .ret .non | .rt d => .ret d | _ => .bad) := by kernel_rfl
    have h2 : b_like (r_like k) [.frz (.lst xs), .frz (.lst ys), .no, .no, .no] = (((eAnd (e2 eqD (eCall lenD (aCons (eVar 0) aNil)) (eCall lenD (aCons (eVar 1) aNil))) (e2 eqD (eComp (iArg zipD (aCons (eVar 0) (aCons (eVar 1) aNil))) [3, 4] (sTup [3, 4]) (tNot (tB (eFn 2 (r_like k) (aCons (eVar 3) (aCons (eVar 4) aNil))))) (eC (.int 1))) (eLst aNil)))
        [.frz (.lst xs), .frz (.lst ys), .frz (.int 5), .no, .no]).bind (fun d => .ret (Fl.rt d))).bind (fun | .nx e => (sRet (e2 eqD (eVar 0) (eVar 1))) e | f => .ret f) := by kernel_rfl
    refine Eq.trans (by kernel_rfl) (h3.trans ?_)
    rw [h2, this]
    kernel_rfl
theorem like_eq : ∀ (k : Nat) {x y : D}, x.okN k = true → y.okN k = true → r_like (k + 1) [x, y] = .ret (.bl (likeB x y))
  | k, x, y, hx, hy => by
    cases x with
    | lst xs =>
      cases y with
      | lst ys =>
        cases k with
        | zero => simp [D.okN] at hx
        | succ k =>
          simp only [D.okN] at hx hy
          exact like_seq (s := false) fun a b ha hb => like_eq k (okNL_mem hx ha) (okNL_mem hy hb)
      | dic => simp [D.okN] at hy
      | dit => simp [D.okN] at hy
      | cup => simp [D.okN] at hy
      | fn => simp [D.okN] at hy
      | ty => simp [D.okN] at hy
      | _ => kernel_rfl
    | tup xs =>
      cases y with
      | tup ys =>
        cases k with
        | zero => simp [D.okN] at hx
        | succ k =>
          simp only [D.okN] at hx hy
          exact like_seq (s := true) fun a b ha hb => like_eq k (okNL_mem hx ha) (okNL_mem hy hb)
      | dic => simp [D.okN] at hy
      | dit => simp [D.okN] at hy
      | cup => simp [D.okN] at hy
      | fn => simp [D.okN] at hy
      | ty => simp [D.okN] at hy
      | _ => kernel_rfl
    | dic => simp [D.okN] at hx
    | dit => simp [D.okN] at hx
    | cup => simp [D.okN] at hx
    | fn => simp [D.okN] at hx
    | ty => simp [D.okN] at hx
    | _ =>
      cases y with
      | dic => simp [D.okN] at hy
      | dit => simp [D.okN] at hy
      | cup => simp [D.okN] at hy
      | fn => simp [D.okN] at hy
      | ty => simp [D.okN] at hy
      | _ => kernel_rfl
/-- `wp` behind a head that nothing unfolds -/
structure G {α : Type} (t : T α) (Q : α → Prop) (E : Ex → Prop) : Prop where
  of ::
  h : t.wp Q E
section
variable {Q : Fl → Prop} {E : Ex → Prop} {env : Env} {a b : Env → T Fl}
theorem g_go {e' : Env} (h1 : a env = .ret (.nx e')) (h2 : G (b e') Q E) : G (sSeq a b env) Q E := ⟨seq_go h1 h2.h⟩
theorem g_of {α : Type} {t : T α} {a : α} {Q : α → Prop} {E : Ex → Prop} (h : t = .ret a) (q : Q a) : G t Q E := ⟨wp_of h q⟩
theorem g_for {tgt : D → Env → Option Env} {body : Env → T Fl} {it : Env → T (List D)} {ds : List D} (h1 : it env = .ret ds) (I : Env → Prop) (h0 : I env)
    (ht : ∀ d ∈ ds, ∀ e, I e → ∃ e', tgt d e = some e' ∧ G (body e') (fun | .nx e => I e | .ct e => I e | .bk e => (b e).wp Q E | .rt v => Q (.rt v)) E) (hd : ∀ e, I e → G (b e) Q E) : G (sSeq (sFor it tgt body) b env) Q E :=
  ⟨seq_for h1 I h0 (fun d hd e he => let ⟨e', h1, h2⟩ := ht d hd e he; ⟨e', h1, h2.h⟩) fun e he => (hd e he).h⟩
theorem g_eq {t : T Fl} (h : a env = t) (h2 : G (t.bind fun fl => match fl with | .nx e => b e | f => .ret f) Q E) : G (sSeq a b env) Q E := by
  subst h
  exact h2
end
end MM

namespace MM
open PySem PySem.Spec L2

/-! ### classes of exceptions -/
/-- what is known of the classes: all of them own, over ValueError -/
def ClsAt (K : PySem.W.Frag) (mg : Str → Option Value) (x : Str) : Prop := ∃ C, mg x = some (.ref C) ∧ PySem.W.excIn K C PySem.HandSPX.veTail "ValueError.__new__" = true ∧ PySem.W.keepIn K (.ref C) = true ∧
  PySem.W.subIn K (.ref C) (.type "BaseException") = some true ∧ PySem.W.typeIn K (.ref C) = some (.type "type")
/-- x is a y -/
def SubAt (K : PySem.W.Frag) (mg : Str → Option Value) (sub : Str → Str → Option Bool) : Prop := ∀ x y b, sub x y = some b → ∃ u v, mg x = some u ∧ mg y = some v ∧ PySem.W.exmOne K u v = some b
section
variable {X : Cx} {tb : Tb} {W : WX} {pos : Pos}
/-! ### raise -/
def sRaise (x : Str) : Env → T Fl := fun _ => .exc ⟨x, none⟩
theorem qs_raise {x m : Str} {j : Nat} {p p2 p3 : Pos} (c : ClsAt X.K X.mg x) (hc : X.calm = true) (tk : Takes X W) (hg : Gl X x := by rfl) (hdb : (x == ("__debug__" : Str)) = false := by decide) :
    QS X tb W (.Raise (some (.Call (.Name x p) [.Constant (.str m) j p2] [] p3)) none pos) (sRaise x) := by
  obtain ⟨C, g, e, k, b, t⟩ := c
  refine ⟨_, ps_raise hc tk (pmk_own PySem.F.excBase_ValueError e g k (raises_own b t) hg hdb), fun g' σ env H Dn E hw => ?_⟩
  exact hw (.ref C) none σ env H E .refl ⟨g, trivial⟩

/-! ### try -/
namespace T
def catch_ {α : Type} (h : Ex → T α) : T α → T α
  | .ret a => .ret a
  | .exc e => h e
  | .bad => .bad
  | .draw n k => .draw n fun i => (k i).catch_ h
theorem wp_catch {α : Type} {h : Ex → T α} {Q : α → Prop} {E : Ex → Prop} : ∀ {t : T α}, (t.catch_ h).wp Q E → t.wp Q (fun x => (h x).wp Q E)
  | .ret _, q => q
  | .exc _, q => q
  | .bad, q => q
  | .draw _ _, q => ⟨q.1, fun i hi => wp_catch (q.2 i hi)⟩
end T
def noE (env : Env) : Env := env.map fun _ => Sl.no
/-- the clauses: a class, its suite -/
def hand (sub : Str → Str → Option Bool) : List (Str × (Env → T Fl)) → Env → Ex → T Fl
  | [], _, x => .exc x
  | (c, f) :: r, env, x => match sub x.cls c with
    | none => .bad
    | some true => (f (noE env)).noX
    | some false => hand sub r env x
def sTry (sub : Str → Str → Option Bool) (f : Env → T Fl) (hs : List (Str × (Env → T Fl))) : Env → T Fl := fun env => (f env).catch_ (hand sub hs env)
theorem ER.forget {p : Pg} {g : Gh} {σ σ' : St} {env : Env} {H : Hp} (E : ER p g σ env H) (hl : σ'.length = σ.length) : ER p g σ' (noE env) H := by
  have nos : ∀ i s, (noE env)[i]? = some s → s = Sl.no := fun i s h => by
    unfold noE at h
    rw [List.getElem?_map] at h
    cases e : env[i]? with
    | none => rw [e] at h; cases h
    | some x => rw [e] at h; cases h; rfl
  have noown : ∀ i a, ¬ OwnAt σ' (noE env) H i a := fun i a => by
    rintro (⟨⟨d, h⟩, _⟩ | ⟨⟨d, h⟩, _⟩) <;> cases nos _ _ h
  refine ⟨by unfold noE; rw [hl, E.len, List.length_map], E.keep, E.dom, E.cup, E.tabs, E.n0, fun i s h => ?_, fun i j a h => (noown i a h).elim, fun i a h => (noown i a h).elim, E.th⟩
  cases nos _ _ h
  trivial

def lenS (n : Nat) (t : TS) : TS := fun Dn σ H => σ.length = n → t Dn σ H
theorem pss_len {st : List Stmt} {t : TS} (h : PSs X st t) : PSs X st (lenS X.N.length t) := ⟨fun pins s σ H Dn I q => h.run pins s σ H Dn I (q I.len)⟩
theorem ps_len {st : Stmt} {t : TS} (h : PS X st t) : PS X st (lenS X.N.length t) := ⟨fun pins s σ H Dn I q => h.run pins s σ H Dn I (q I.len)⟩
theorem vo_no {n i : Nat} {s : Sl} (h : (List.replicate n Sl.no)[i]? = some s) : s = Sl.no := by
  rw [List.getElem?_replicate] at h
  split at h <;> cases h
  rfl
theorem ER.void {p : Pg} {g : Gh} {σ σ' : St} {env : Env} {H : Hp} (E : ER p g σ env H) : ER p g σ' (List.replicate σ'.length Sl.no) H := by
  have noown : ∀ i a, ¬ OwnAt σ' (List.replicate σ'.length Sl.no) H i a := fun i a => by
    rintro (⟨⟨d, h⟩, _⟩ | ⟨⟨d, h⟩, _⟩) <;> cases vo_no h
  refine ⟨by simp, E.keep, E.dom, E.cup, E.tabs, E.n0, fun i s h => ?_, fun i j a h => (noown i a h).elim, fun i a h => (noown i a h).elim, E.th⟩
  cases vo_no h
  trivial
/-- what a body of statements is read as -/
def rdS (p : Pg) (W : WX) (f : Env → T Fl) : TS := fun Dn σ H => ∃ g env, ER p g σ env H ∧ (f env).wp (FlP p g σ env H Dn) (XPs p g σ env H W)
theorem QB.pss {st : List Stmt} {f : Env → T Fl} (h : QB X tb W st f) : PSs X st (rdS (pgOf X tb) W f) := by
  obtain ⟨t, h1, h2⟩ := h.ex
  exact ⟨fun pins s σ H Dn I ⟨g, env, E, hw⟩ => h1.run pins s σ H Dn I (h2 g σ env H Dn E hw)⟩
inductive QHs (X : Cx) (tb : Tb) : List ExceptHandler → List (Str × (Env → T Fl)) → Prop
  | nil : QHs X tb [] []
  | cons {x : Str} {f : Env → T Fl} {b₀ : Stmt} {suite : List Stmt} {np pos' : Pos} {hds : List ExceptHandler} {l : List (Str × (Env → T Fl))} (hg : Gl X x) (hd : (x == ("__debug__" : Str)) = false)
      (hsu : ∀ (a : Addr) (pn : List (Addr × Obj)), QB (X.suite a pn) tb (fun _ _ _ _ => False) (b₀ :: suite) f) (r : QHs X tb hds l) :
      QHs X tb (.ExceptHandler (some (.Name x np)) none (b₀ :: suite) pos' :: hds) ((x, f) :: l)
/-- the clauses in the layer's words, where every class is there -/
theorem QHs.ok {K : PySem.W.Frag} {sub : Str → Str → Option Bool} (hX : X.K = K) : ∀ {hds : List ExceptHandler} {l : List (Str × (Env → T Fl))}, QHs X tb hds l → (∀ q ∈ l, ∃ v, X.mg q.1 = some v) →
    ∃ L : List (Value × (Addr → Value → Option Addr → TS)), HdsOk X hds L ∧ L.map (·.1) = l.map (fun q => (X.mg q.1).getD .none) ∧ L.map (·.2) = l.map (fun q _ _ _ => lenS X.N.length (rdS (pgOf X tb) (fun _ _ _ _ => False) q.2)) := by
  intro hds l h hm
  induction h with
  | nil => exact ⟨[], .nil, rfl, rfl⟩
  | @cons x f b₀ suite np pos' hds l hg hd hsu r ih =>
    obtain ⟨v, hv⟩ := hm _ List.mem_cons_self
    obtain ⟨L, h1, h2, h3⟩ := ih fun q hq => hm q (List.mem_cons_of_mem _ hq)
    refine ⟨(v, fun _ _ _ => lenS X.N.length (rdS (pgOf X tb) (fun _ _ _ _ => False) f)) :: L, .cons (ts := fun _ _ _ => lenS X.N.length (rdS (pgOf X tb) (fun _ _ _ _ => False) f)) ⟨hg, hd, .inl hv⟩ (fun a oe cls d pn _ _ => pss_len (hsu a _).pss) h1, ?_, ?_⟩
    · simp only [List.map_cons, h2, hv, Option.getD_some]
    · simp only [List.map_cons, h3]
theorem wMany_of {sub : Str → Str → Option Bool} {Dn : Ends} {cls : Value} {dx : Option Addr} {x : Ex} {g : Gh} {σ σ' : St} {env env' : Env} {H H' : Hp} (hs : SubAt X.K X.mg sub) (E' : ER (pgOf X tb) g σ' env' H') (s : SStep H H') (hl : env.length = X.N.length)
    (hx : ExR (pgOf X tb) g.C H' x cls dx) : ∀ (l : List (Str × (Env → T Fl))) (L : List (Value × (Addr → Value → Option Addr → TS))), L.map (·.1) = l.map (fun q => (X.mg q.1).getD .none) → L.map (·.2) = l.map (fun q _ _ _ => lenS X.N.length (rdS (pgOf X tb) (fun _ _ _ _ => False) q.2)) →
    (hand sub l env x).wp (FlP (pgOf X tb) g σ env H Dn) (XPs (pgOf X tb) g σ env H W) → wMany X.K W Dn L cls dx σ' H'
  | [], [], _, _, hw => hw cls dx σ' env' H' E' s hx
  | (c, f) :: r, [], h, _, _ => by simp at h
  | [], _ :: _, h, _, _ => by simp at h
  | (c, f) :: r, (v, ts) :: L, h1, h2, hw => by
    simp only [List.map_cons, List.cons.injEq] at h1 h2
    obtain ⟨e1, h1⟩ := h1
    obtain ⟨e2, h2⟩ := h2
    subst e2
    unfold hand at hw
    cases hq : sub x.cls c with
    | none => rw [hq] at hw; exact hw.elim
    | some b =>
      rw [hq] at hw
      obtain ⟨u, v', m1, m2, ex⟩ := hs _ _ _ hq
      rw [m2, Option.getD_some] at e1
      subst e1
      have hu : cls = u := by
        have h := hx.1
        exact Option.some.inj (h.symm.trans m1)
      subst hu
      refine ⟨b, ex, fun hb a _ => ?_, fun hb => ?_⟩
      · subst hb
        intro hl'
        have hl2 : env.length = env'.length := by rw [hl, ← hl', E'.len]
        have ne : noE env = noE env' := by
          unfold noE
          rw [List.map_const', List.map_const', hl2]
        refine ⟨g, noE env', E'.forget rfl, ?_⟩
        rw [← ne]
        refine T.wp_mono (fun fl q => ?_) (fun _ z => z.elim) (T.wp_noX (E' := fun _ => False) hw)
        have ss : SStep H H' := s
        cases fl with
        | nx e' => exact fun σ2 H2 E2 s2 => q σ2 H2 E2 (ss.trans s2)
        | bk e' => exact fun σ2 H2 E2 s2 => q σ2 H2 E2 (ss.trans s2)
        | ct e' => exact fun σ2 H2 E2 s2 => q σ2 H2 E2 (ss.trans s2)
        | rt d => exact fun v σ2 e' H2 E2 s2 r2 => q v σ2 e' H2 E2 (ss.trans s2) r2
      · subst hb
        exact wMany_of hs E' s hl hx r L h1 h2 hw
theorem qs_try {sub : Str → Str → Option Bool} {body : List Stmt} {h₀ : ExceptHandler} {hds : List ExceptHandler} {fb : Env → T Fl} {l : List (Str × (Env → T Fl))} (hs : SubAt X.K X.mg sub) (tk : Takes X W) (hm : ∀ q ∈ l, ∃ v, X.mg q.1 = some v)
    (hb : ∀ (W : WX) (pn : List (Addr × Obj)) (xe : Value → Shared → Prop), Takes (X.tr pn xe) W → QB (X.tr pn xe) tb W body fb) (hh : QHs X tb (h₀ :: hds) l) (h1 : X.stack = X.env :: X.outer := by rfl) (h2 : X.env.frame = some X.env.locals := by rfl) :
    QS X tb W (.Try body (h₀ :: hds) [] [] pos) (sTry sub fb l) := by
  obtain ⟨L, o, e1, e2⟩ := hh.ok (K := X.K) (sub := sub) rfl hm
  refine ⟨_, ps_len (ps_try_many (tb := fun W => rdS (pgOf X tb) W fb) h1 h2 tk (fun W pn xe tk _ => (hb W pn xe tk).pss) o), fun g σ env H Dn E hw hl => ?_⟩
  unfold sTry at hw
  refine ⟨g, env, E, T.wp_mono (fun _ q => q) (fun x q => ?_) (T.wp_catch hw)⟩
  intro cls dx σ' env' H' E' s hx
  exact wMany_of hs E' s (by rw [← E.len, hl]) hx l L e1 e2 q
end
end MM

namespace MM
open PySem PySem.Spec L2

/-! ### without thunks -/
mutual
def D.noF : D → Bool
  | .lst xs => noFL xs
  | .tup xs => noFL xs
  | .dic _ => false
  | .dit _ => false
  | .fn _ => false
  | _ => true
def noFL : List D → Bool
  | [] => true
  | d :: ds => d.noF && noFL ds
end
section
variable {K : PySem.W.Frag} {mg : Str → Option Value} {tb tb' : Tb} {C : Addr → Prop} {H : Hp}
mutual
theorem Rep.un : ∀ {d : D} {v : V}, d.noF = true → Rep ⟨K, mg, tb⟩ C H d v → Rep ⟨K, mg, tb'⟩ C H d v
  | .non, _, _, h => h
  | .bl _, _, _, h => h
  | .int _, _, _, h => h
  | .str _, _, _, h => h
  | .cup, _, _, h => h
  | .ty _, _, _, h => h
  | .fn _, _, n, _ => by cases n
  | .dic _, _, n, _ => by cases n
  | .dit _, _, n, _ => by cases n
  | .lst xs, v, n, h => by
    simp only [Rep] at h ⊢
    obtain ⟨a, vs, e, s, l, r⟩ := h
    exact ⟨a, vs, e, s, l, RepL.un n r⟩
  | .tup xs, v, n, h => by
    simp only [Rep] at h ⊢
    obtain ⟨a, vs, e, s, l, r⟩ := h
    exact ⟨a, vs, e, s, l, RepL.un n r⟩
theorem RepL.un : ∀ {ds : List D} {vs : List V}, noFL ds = true → RepL ⟨K, mg, tb⟩ C H ds vs → RepL ⟨K, mg, tb'⟩ C H ds vs
  | [], _, _, h => h
  | d :: ds, vs, n, h => by
    simp only [noFL, Bool.and_eq_true] at n
    simp only [RepL] at h ⊢
    obtain ⟨v, ws, e, r, q⟩ := h
    exact ⟨v, ws, e, Rep.un n.1 r, RepL.un n.2 q⟩
end
mutual
theorem Rep.th {l : List (Addr × Str)} : ∀ {d : D} {v : V}, Rep ⟨K, mg, tb0 l⟩ C H d v → Rep ⟨K, mg, tb'⟩ C H d v
  | .non, _, h => h
  | .bl _, _, h => h
  | .int _, _, h => h
  | .str _, _, h => h
  | .cup, _, h => h
  | .ty _, _, h => h
  | .fn _, _, h => by
    simp only [Rep] at h ⊢
    obtain ⟨f, e, q | ⟨_, t, z, _⟩⟩ := h
    · exact ⟨f, e, .inl q⟩
    · cases z
  | .dic kvs, v, h => by
    simp only [Rep] at h ⊢
    obtain ⟨a, kws, e, s, l, r⟩ := h
    exact ⟨a, kws, e, s, l, RepK.th r⟩
  | .dit kvs, v, h => by
    simp only [Rep] at h ⊢
    obtain ⟨a, kws, e, s, l, r⟩ := h
    exact ⟨a, kws, e, s, l, RepT.th r⟩
  | .lst xs, v, h => by
    simp only [Rep] at h ⊢
    obtain ⟨a, vs, e, s, l, r⟩ := h
    exact ⟨a, vs, e, s, l, RepL.th r⟩
  | .tup xs, v, h => by
    simp only [Rep] at h ⊢
    obtain ⟨a, vs, e, s, l, r⟩ := h
    exact ⟨a, vs, e, s, l, RepL.th r⟩
theorem RepL.th {l : List (Addr × Str)} : ∀ {ds : List D} {vs : List V}, RepL ⟨K, mg, tb0 l⟩ C H ds vs → RepL ⟨K, mg, tb'⟩ C H ds vs
  | [], _, h => h
  | d :: ds, vs, h => by
    simp only [RepL] at h ⊢
    obtain ⟨v, ws, e, r, q⟩ := h
    exact ⟨v, ws, e, Rep.th r, RepL.th q⟩
theorem RepK.th {l : List (Addr × Str)} : ∀ {ds : List (D × D)} {vs : List (Key × V)}, RepK ⟨K, mg, tb0 l⟩ C H ds vs → RepK ⟨K, mg, tb'⟩ C H ds vs
  | [], _, h => h
  | (k, d) :: ds, vs, h => by
    simp only [RepK] at h ⊢
    obtain ⟨kk, v, ws, e, r, r2, q⟩ := h
    exact ⟨kk, v, ws, e, Rep.th r, Rep.th r2, RepK.th q⟩
theorem RepT.th {l : List (Addr × Str)} : ∀ {ds : List (D × D)} {vs : List (List Key × V)}, RepT ⟨K, mg, tb0 l⟩ C H ds vs → RepT ⟨K, mg, tb'⟩ C H ds vs
  | [], _, h => h
  | (k, d) :: ds, vs, h => by
    cases k with
    | tup ks =>
      simp only [RepT] at h ⊢
      obtain ⟨kk, v, ws, e, l, r, r2, q⟩ := h
      exact ⟨kk, v, ws, e, l, RepL.th r, Rep.th r2, RepT.th q⟩
    | _ => simp only [RepT] at h
end
theorem Step.retb {H H' : Hp} (s : Step ⟨K, mg, tb⟩ C H H') (hl : tb.l = tb'.l := by rfl) : Step ⟨K, mg, tb'⟩ C H H' := ⟨s.grow, s.cup, by have t := s.tabs; rw [show (Pg.mk K mg tb).tb.l = tb'.l from hl] at t; exact t, s.dom⟩
theorem ExR.th {l : List (Addr × Str)} {x : Ex} {cls : Value} {dx : Option Addr} (h : ExR ⟨K, mg, tb0 l⟩ C H x cls dx) : ExR ⟨K, mg, tb'⟩ C H x cls dx := by
  obtain ⟨h1, h2⟩ := h
  refine ⟨h1, ?_⟩
  cases hx : x.fld with
  | none => trivial
  | some fd =>
    rw [hx] at h2
    obtain ⟨a, fs, v, e1, e2, e3, r⟩ := h2
    exact ⟨a, fs, v, e1, e2, e3, r.th⟩
end

/-! ### the thunk is called: a statement -/
def sThk (m : T D) : Env → T Fl := fun env => match env with
  | .frz (.fn []) :: _ => m.bind fun _ => .ret (.nx env)
  | _ => .bad
/-- the def that got the thunk m in its first slot, in the context X -/
structure Act (X : Cx) (tb : Tb) (a : Str) (m : T D) : Prop where
  st : ∀ (W : WX) (pn : List (Addr × Obj)) (xe : Value → Shared → Prop), Takes (X.tr pn xe) W → ∀ p1 p2 p3, QS (X.tr pn xe) tb W (.Expr (.Call (.Name a p1) [] [] p2) p3) (sThk m)
/-- what a thunk does, told by a predicate -/
def ThkP (K : PySem.W.Frag) (mg : Str → Option Value) (l : List (Addr × Str)) (C : Addr → Prop) (H : Hp) (m : T D) (tl : XK → Hp → VK → Prop) : Prop :=
  ∀ (HZ : Hp) (E : XK) (Q : VK), Step ⟨K, mg, tb0 l⟩ C H HZ → m.wp (fun _ => ∀ v H', Step ⟨K, mg, tb0 l⟩ C HZ H' → Q v H') (fun x => ∀ cls dx H', Step ⟨K, mg, tb0 l⟩ C HZ H' → ExR ⟨K, mg, tb0 l⟩ C H' x cls dx → E cls dx H') → tl E HZ Q
theorem act_of {X : Cx} {l : List (Addr × Str)} {a q : Str} {f c' : Addr} {C : Addr → Prop} {H : Hp} {m : T D} {tl : XK → Hp → VK → Prop} (hc : H c' = some (LamX.CodeO c' q)) (hcup : ∀ a, C a → CupAt H a) (ht : ThkP X.K X.mg l C H m tl)
    (act : ∀ (W : WX) (pn : List (Addr × Obj)) (xe : Value → Shared → Prop) (E : XK) (p1 p2 : Pos), Takes (X.tr pn xe) W → (∀ cls d σ' H', E cls d H' → W cls d σ' H') →
      PE (X.tr pn xe) (.Call (.Name a p1) [] [] p2) (fun σZ HZ Q => σZ[0]? = some (some (.ref f)) ∧ HZ c' = some (LamX.CodeO c' q) ∧ tl E HZ Q)) : Act X ⟨l, some ⟨f, C, H⟩⟩ a m := by
  refine ⟨fun W pn xe tk p1 p2 p3 => ?_⟩
  have hp : PE (X.tr pn xe) (.Call (.Name a p1) [] [] p2) (fun σZ HZ Q => ∃ E : XK, (∀ cls d σ' H', E cls d H' → W cls d σ' H') ∧ σZ[0]? = some (some (.ref f)) ∧ HZ c' = some (LamX.CodeO c' q) ∧ tl E HZ Q) :=
    ⟨fun pins s σ H' Q I ⟨E, hE, h⟩ => (act W pn xe E p1 p2 tk hE).run pins s σ H' Q I h⟩
  refine ⟨_, ps_expr hp, fun g σ env HZ Dn E hw => ?_⟩
  obtain ⟨eC, eH⟩ := E.th _ rfl
  have st0 : Step (pgOf X ⟨l, some ⟨f, C, H⟩⟩) C H HZ := by
    have := E.out
    rw [eC, eH] at this
    exact this
  have st : Step ⟨X.K, X.mg, tb0 l⟩ C H HZ := st0.retb
  unfold sThk at hw
  split at hw
  · rename_i env' r
    rw [T.wp_bind] at hw
    obtain ⟨v, hv, rv⟩ := E.slot 0 _ (by rfl)
    simp only [Rep] at rv
    obtain ⟨f', rfl, hf⟩ := rv
    have ef : f' = f := by
      rcases hf with ⟨hf, _⟩ | ⟨_, t, z, e⟩
      · exact (hf rfl).elim
      · cases z
        exact e.symm
    subst ef
    have hcZ : HZ c' = some (LamX.CodeO c' q) := by
      refine st.grow _ _ hc (fun z => ?_) LamX.codeO_ne
      obtain ⟨x, y, e, _⟩ := hcup c' z
      rw [hc] at e
      unfold LamX.CodeO at e
      cases e
    refine ⟨fun cls d H' => ∀ σ', W cls d σ' H', fun cls d σ' H' z => z σ', hv, hcZ, ht HZ _ _ st (T.wp_mono (fun d q v H' s => ?_) (fun x q cls dx H' s hx σ' => ?_) hw)⟩
    · have s' : Step (pgOf X ⟨l, some ⟨f', C, H⟩⟩) g.C HZ H' := by rw [eC]; exact s.retb
      exact q σ H' (E.step s') (s'.s E)
    · have s' : Step (pgOf X ⟨l, some ⟨f', C, H⟩⟩) g.C HZ H' := by rw [eC]; exact s.retb
      have E' := E.step s'
      exact q cls dx σ' _ H' E'.void (s'.s E) (by rw [eC]; exact hx.th)
  · exact hw.elim
end MM

namespace MM
open PySem PySem.Spec L2

/-! ### a def that is handed a thunk -/
def startT (n : Nat) : Env := .frz (.fn []) :: List.replicate (n - 1) .no
def runT (n : Nat) (bh : T D → Env → T Fl) (m : T D) : T D := (bh m (startT n)).noX.bind fun
  | .nx _ => .ret .non
  | .rt d => if d.noF then .ret d else .bad
  | _ => .bad
def TTm (K : PySem.W.Frag) (mg : Str → Option Value) (l : List (Addr × Str)) (mh : T D → T D) : (XK → Hp → VK → Prop) → Hp → VK → Prop := fun tl H Q => ∃ (N0 C : Addr → Prop) (m : T D), (∀ a, C a → N0 a) ∧ (∀ a, C a → CupAt H a) ∧ (∀ a, N0 a → Ob H a) ∧ LamX.Tabs l H ∧ ThkP K mg l C H m tl ∧
  (mh m).wp (fun d => ∀ v H', Step ⟨K, mg, tb0 l⟩ C H H' → Rep ⟨K, mg, tb0 l⟩ C H' d v → Q v H') (fun _ => False)
theorem er_startT {p : Pg} {N : List Str} {N0 C : Addr → Prop} {H : Hp} {f : Addr} (hC : ∀ a, C a → N0 a) (hl : 0 < N.length) (hcup : ∀ a, C a → CupAt H a) (hn0 : ∀ a, N0 a → Ob H a) (tabs : LamX.Tabs p.tb.l H) (hth : p.tb.th = some ⟨f, C, H⟩) :
    ER p ⟨H, N0, C, hC⟩ (L2.start N [.ref f]) (startT N.length) H := by
  have get : ∀ {i s}, (startT N.length)[i]? = some s → (i = 0 ∧ s = .frz (.fn [])) ∨ s = .no := fun {i s} h => by
    unfold startT at h
    cases i with
    | zero => exact .inl ⟨rfl, by simpa using h.symm⟩
    | succ i => exact .inr (vo_no (by simpa using h))
  have noown : ∀ i a, ¬ OwnAt (L2.start N [.ref f]) (startT N.length) H i a := fun i a => by
    rintro (⟨⟨d, h⟩, _⟩ | ⟨⟨d, h⟩, _⟩) <;> rcases get h with ⟨_, z⟩ | z <;> cases z
  refine ⟨?_, fun b o h _ _ => h, fun b h => h, hcup, tabs, hn0, fun i s hs => ?_, fun i j a h => (noown i a h).elim, fun i a h => (noown i a h).elim, fun t z => ?_⟩
  · unfold L2.start startT
    simp
  · rcases get hs with ⟨rfl, rfl⟩ | rfl
    · refine ⟨.ref f, ?_, ?_⟩
      · unfold L2.start
        rfl
      · simp only [Rep]
        exact ⟨f, rfl, .inr ⟨trivial, _, hth, rfl⟩⟩
    · trivial
  · rw [hth] at z
    cases z
    exact ⟨rfl, rfl⟩
theorem gives_of {X : Cx} {l : List (Addr × Str)} {Ng : List Str} {x a q : Str} {sg : Scope} {g : Addr} {cdg : Value} {bg : List Stmt} {bh : T D → Env → T Fl} (hn : 0 < Ng.length)
    (hb : ∀ (f : Addr) (s : Shared) (H : Hp) (C : Addr → Prop) (m : T D), Act (cxOf C8.CX0 X.prog X.w X.K X.mg X.base Ng x sg g cdg X.A X.stack s H C8.E0) ⟨l, some ⟨f, C, H⟩⟩ a m →
      QB (cxOf C8.CX0 X.prog X.w X.K X.mg X.base Ng x sg g cdg X.A X.stack s H C8.E0).nox ⟨l, some ⟨f, C, H⟩⟩ (fun _ _ _ _ => False) bg (bh m)) :
    LamX.GivesTo X Ng x sg g cdg bg a q (TTm X.K X.mg l (runT Ng.length bh)) := by
  intro f c' s H Q tl act hc h
  obtain ⟨N0, C, m, hC, hcup, hn0, tabs, ht, hw⟩ := h
  have A := act_of (X := cxOf C8.CX0 X.prog X.w X.K X.mg X.base Ng x sg g cdg X.A X.stack s H C8.E0) hc hcup ht act
  obtain ⟨t, h1, h2⟩ := (hb f s H C m A).ex
  refine ⟨t, h1, ?_⟩
  have E := er_startT (p := ⟨X.K, X.mg, ⟨l, some ⟨f, C, H⟩⟩⟩) (N := Ng) (f := f) hC hn hcup hn0 tabs rfl
  unfold runT at hw
  rw [T.wp_bind] at hw
  refine h2 _ _ _ _ _ E (T.wp_mono (fun fl q => ?_) (fun _ z => z.elim) (T.wp_noX (E' := fun _ => False) hw))
  cases fl with
  | nx e' =>
    intro σ' H' E' s'
    have st : Step ⟨X.K, X.mg, ⟨l, some ⟨f, C, H⟩⟩⟩ C H H' := E'.out
    exact q .non H' st.retb (by simp [Rep])
  | rt d =>
    intro v σ' e' H' E' s' r
    have st : Step ⟨X.K, X.mg, ⟨l, some ⟨f, C, H⟩⟩⟩ C H H' := E'.out
    dsimp only at q
    split at q
    · rename_i hd
      exact q v H' st.retb (Rep.un hd r)
    · exact q.elim
  | bk e' => exact q.elim
  | ct e' => exact q.elim
/-- a def to which lambdas are handed -/
def OkTh (K : PySem.W.Frag) (mg : Str → Option Value) (l : List (Addr × Str)) (x a : Str) (st : Stmt) (N : List Str) (mh : T D → T D) : Prop :=
  DefAt K mg x st [a] ∧ FnScope N [a] (defScope st) ∧ ∀ (X : Cx) (g : Addr) (cdg : Value) (q : Str), X.K = K → X.mg = mg → LamX.GivesTo X N x (defScope st) g cdg (defBody st) a q (TTm K mg l mh)
def eLam (mh : T D → T D) (fb : Env → T D) : Env → T D := fun env => (mh (fb env)).noX
theorem qe_lam {X : Cx} {l : List (Addr × Str)} {W : WX} {x a : Str} {st : Stmt} {N : List Str} {mh : T D → T D} {params : Arguments} {body : Expr} {scope : Scope} {c P : Addr} {k : Nat} {fb : Env → T D} {p lpos pos : Pos} (O : OkTh X.K X.mg l x a st N mh) (hr : Room (k + 2) X.A)
    (TB : LamX.TabB X.base X.mg c P) (hcode : X.env.code = .ref c) (hmT : (P, X.env.qual ++ "<lambda>") ∈ l) (hu : ∀ p ∈ l, p.1 = P → p.2 = X.env.qual ++ "<lambda>")
    (hbody : ∀ (A : Around) (outer : List PySem.Env) (s : Shared) (H : Hp) (E : XK) (f c' : Addr), Room k (A.deeper (LamX.lamEnv X scope s.heap.objs.size f c')) → QE (LamX.lamCx X A outer s H E scope f c') (tb0 l) (fun cls d _ H' => E cls d H') body fb)
    (hg : Gl X x := by rfl) (L : LamX.lamSB X.env.scope scope = true := by kernel_rfl) (hdef : defaultsOf params X.env = ([], []) := by rfl)
    (hbind : ∀ (q : Str) (cl : List (Str × Addr)) (pm cv ctv : Value), bindArgs (PySem.W.kla_fn "<lambda>" q params body scope cl pm cv ctv) ⟨[], []⟩ = pure [] := by intros; rfl)
    (hNg : N[0]? = some a := by rfl) (hva : Vis (defScope st) a := by first | exact Or.inl rfl | exact Or.inr (Or.inl rfl) | exact Or.inr (Or.inr rfl))
    (hdb : (x == ("__debug__" : Str)) = false := by decide) (hd : (a == ("__debug__" : Str)) = false := by decide) (hcd : (a == ("__classdict__" : Str)) = false := by decide) :
    QE X (tb0 l) W (.Call (.Name x p) [.Lambda params body scope lpos] [] pos) (eLam mh fb) := by
  obtain ⟨⟨f, fd, F, gf, b⟩, Sg, G⟩ := O
  have kp := F.kp
  obtain ⟨oc, od, kV, doc, pm, an, cdv, ct, osl, e, lk, hcd'⟩ := id F.ex
  subst e
  refine ⟨_, LamX.pe_lamcall (T := l) (TT := TTm X.K X.mg l mh) (t := fun E => rdE (pgOf X (tb0 l)) (fun cls d _ H' => E cls d H') fb) hg gf kp lk hcd' b Sg hNg hva (G X f cdv _ rfl rfl) TB hcode hmT hu hr (LamX.lamS_by L) hdef hbind
    (fun A outer s H E f c' hr => (hbody A outer s H E f c' hr).pe) hdb hd hcd, fun g σ env H Q E hw => ?_⟩
  unfold eLam at hw
  refine ⟨E.tabs, fun H1 eN T1 => ?_⟩
  have s1 : Step (pgOf X (tb0 l)) g.C H H1 := ⟨fun b o h _ n => eN b o h n, fun a c => by
    obtain ⟨x, y, e, q⟩ := E.cup a c
    exact ⟨x, y, eN _ _ e (fun _ => by simp), q⟩, T1, fun b ⟨o, e, t⟩ => ⟨o, eN b o e t, t⟩⟩
  have E1 := E.step s1
  refine ⟨g.N0, g.C, fb env, g.hC, E1.cup, E1.n0, T1, fun HZ E' Q' s2 hm => ?_, T.wp_mono (fun d q v H' s r => q v H' (s1.trans s) r) (fun _ z => z.elim) (T.wp_noX (E' := fun _ => False) hw)⟩
  exact ⟨g, env, E1.step s2, T.wp_mono (fun d q v H' s _ => q v H' s) (fun x q => q) hm⟩
end MM

namespace MM
open PySem PySem.Spec L2

/-! ### a call of a local that holds a def -/
abbrev Disp := List (List Nat × Nat × (List D → T D))
def findDp : Disp → List Nat → Option (Nat × (List D → T D))
  | [], _ => none
  | (x, r) :: q, y => if eqNats x y then some r else findDp q y
def eLoc (i : Nat) (dp : Disp) (fa : Env → T (List D)) : Env → T D := fun env => match env[i]? with
  | some (.frz (.fn y)) => (match findDp dp y with
    | some r => (fa env).bind fun xs => if lenL xs = r.1 then r.2 xs else .bad
    | none => .bad)
  | _ => .bad
theorem findDp_mem {y : List Nat} {r : Nat × (List D → T D)} : ∀ {dp : Disp}, findDp dp y = some r → (y, r) ∈ dp
  | [], h => by cases h
  | (x, r') :: q, h => by
    unfold findDp at h
    rw [eqNats_eq] at h
    split at h
    · rename_i e
      have e := of_decide_eq_true e
      subst e
      cases h
      exact List.mem_cons_self
    · exact List.mem_cons_of_mem _ (findDp_mem h)
section
variable {X : Cx} {l : List (Addr × Str)} {E0 : XK} {pos : Pos}
theorem qe_callL (i : Nat) {k : Nat} {x : Str} {dp : Disp} {p : Pos} {e : Expr} {es : List Expr} {fa : Env → T (List D)} (hD : ∀ q ∈ dp, ∃ ps, OkF X.prog X.w X.K X.mg X.base l k q.2.1 (sl q.1) ps q.2.2) (hr : Room k X.A) (tk : Takes X (fun cls d _ H' => E0 cls d H'))
    (ha : QA X (tb0 l) (fun cls d _ H' => E0 cls d H') (e :: es) fa) (hN : X.N[i]? = some x := by rfl) (hv : Vis X.env.scope x := by first | exact Or.inl rfl | exact Or.inr (Or.inl rfl) | exact Or.inr (Or.inr rfl)) (hd : (x == ("__debug__" : Str)) = false := by decide)
    (hcd : (x == ("__classdict__" : Str)) = false := by decide) (he : starEach (e :: es) X.env = (false, eval e X.env) :: starEach es X.env := by rfl) (hpl : (backTo pos (starEach es X.env)).any (·.1) = false := by rfl) :
    QE X (tb0 l) (fun cls d _ H' => E0 cls d H') (.Call (.Name x p) (e :: es) [] pos) (eLoc i dp fa) := by
  obtain ⟨t, h1, h2⟩ := ha.ex
  refine ⟨fun σ H Q => ∃ q ∈ dp, ∃ f, X.mg (sl q.1) = some (.ref f) ∧ tCallL i f (SpM (pgOf X (tb0 l)) q.2.1 q.2.2) [] E0 t σ H Q, ⟨fun pins s σ H Q I ⟨q, hq, f, hf, h⟩ => ?_⟩, fun g σ env H Q E hw => ?_⟩
  · obtain ⟨ps, f', fd, g, kp, b, F⟩ := hD q hq
    rw [hf] at g
    cases g
    exact (pe_callL F hr hN hv kp b .nil (passes_call tk fun _ _ _ _ z => z) h1 hd hcd he hpl).run pins s σ H Q I h
  · unfold eLoc at hw
    split at hw
    · rename_i y he
      split at hw
      · rename_i r hr
        obtain ⟨v, hs, rv⟩ := E.slot i _ he
        simp only [Rep] at rv
        obtain ⟨f, rfl, hf⟩ := rv
        rcases hf with ⟨_, hf⟩ | ⟨_, t, z, _⟩
        · refine ⟨_, findDp_mem hr, f, hf, hs, ?_⟩
          rw [T.wp_bind] at hw
          refine h2 g σ env H _ E (T.wp_mono (fun xs q vs H1 s1 r1 => ?_) (fun _ z => z) hw)
          split at q
          · rename_i hl
            have E1 := E.step s1
            rw [lenL_eq] at hl
            rw [List.append_nil]
            exact ⟨g.N0, g.C, xs, by rw [r1.length, hl], g.hC, E1.cup, E1.n0, E1.tabs, r1, T.wp_mono (fun d q v H' s r => q v H' (s1.trans s) r) (fun x h cls dx H' s r => h cls dx H' (s1.trans s) r) q⟩
          · exact q.elim
        · cases z
      · exact hw.elim
    · exact hw.elim
end
end MM

namespace MM
open PySem PySem.Spec L2

section
variable {X : Cx} {tb : Tb} {W : WX} {pos : Pos}
/-! ### methods that answer a value -/
def tyD : D → String
  | .str _ => "str"
  | .lst _ => "list"
  | _ => ""
def MRI (X : Cx) (tb : Tb) (r : V → List V → Hp → VK → Prop) (F : D → List D → Option D) : Prop := ∀ g σ env H (Q : VK) x xs vx vs d, ER (pgOf X tb) g σ env H → RepP (pgOf X tb) g.C H x vx → RepPs (pgOf X tb) g.C H xs vs → F x xs = some d →
  (∀ v H', Step (pgOf X tb) g.C H H' → Rep (pgOf X tb) g.C H' d v → Q v H') → r vx vs H (fun v H' => LQ (Q v) H')
def eMeth (T' : String) (F : D → List D → Option D) (fx : Env → T D) (fa : Env → T (List D)) : Env → T D := fun env => (fx env).bind fun x => if tyD x == T' then (fa env).bind fun xs => ofO (F x xs) else .bad
theorem qe_meth {T' : String} {name : Str} {id : String} {r : V → List V → Hp → VK → Prop} {F : D → List D → Option D} {o e : Expr} {es : List Expr} {fx : Env → T D} {fa : Env → T (List D)} {apos cpos : Pos} (pa : PlainAttrs T') (slot : Slot T' name id) (hty : typeOf (.builtin id) = pure (.type "method_descriptor")) (hm : MtR X id r)
    (hr : MRI X tb r F) (ho : QP X tb W o fx) (ha : QAP X tb W (e :: es) fa) (hT : T' = "str" ∨ T' = "list" := by decide)
    (hbase : attributeBase o name X.env (eval o X.env) = eval o X.env := by rfl)
    (hfew : ((backTo cpos (starEach (e :: es) X.env)).all (fun x => !x.1) && (backToKw cpos (keywordEach [] X.env)).all (fun x => x.1.isSome)
      && decide ((e :: es).length + ([] : List Keyword).length + (if ([] : List Keyword).isEmpty then 0 else 1) < 30)) = true := by rfl)
    (hline : (apos.endLine == cpos.line) = true := by rfl) (hs : starEach (e :: es) X.env = (false, eval e X.env) :: starEach es X.env := by rfl) (hplain : (backTo cpos (starEach es X.env)).any (·.1) = false := by rfl) :
    QE X tb W (.Call (.Attribute o name apos) (e :: es) [] cpos) (eMeth T' F fx fa) := by
  obtain ⟨t1, p1, i1⟩ := ho.ex
  obtain ⟨t2, p2, i2⟩ := ha.ex
  refine ⟨_, pe_lq (pe_bm pa slot hty hm p1 p2 hbase hfew hline hs hplain), fun g σ env H Q E hw => ?_⟩
  unfold eMeth at hw
  rw [T.wp_bind] at hw
  refine i1 g σ env H _ E (T.wp_mono (fun x q vx H1 s1 r1 => ?_) (fun _ z => z) hw)
  split at q
  · rename_i ht
    have ht : tyD x = T' := by simpa using ht
    refine ⟨?_, ?_⟩
    · cases x with
      | str s =>
        simp only [RepP, Rep] at r1
        rw [r1.1]
        exact ht.symm
      | lst xs =>
        obtain ⟨a, vs, rfl, _, ea, _, _⟩ := r1
        exact .inl ⟨ht.symm, vs, .inl ea⟩
      | _ =>
        rcases hT with z | z <;> rw [z] at ht <;> exact absurd ht (by simp [tyD])
    · rw [T.wp_bind] at q
      have E1 := E.step s1
      refine i2 g σ env H1 _ E1 (T.wp_mono (fun xs q vs H2 s2 r2 => ?_) (wpStep s1) q)
      cases hF : F x xs with
      | none => rw [hF] at q; exact q.elim
      | some d => rw [hF] at q; exact hr g σ env H2 Q x xs vx vs d (E1.step s2) (r1.step E1 s2) r2 hF (wpDone (s1.trans s2) q)
  · exact q.elim
/-! ### split -/
def strsD (ys : List Str) : List D := ys.map fun s => .str s.cps.toList
def splitD : D → List D → Option D
  | .str a, [.str b] => if b.isEmpty = false ∧ a.length + 2 ≤ 16777216 ∧ ((Txt.split (sl a) (sl b)).all fun s => okS s.cps.toList) = true ∧ (Txt.split (sl a) (sl b)).length ≤ 16777216 then some (.lst (strsD (Txt.split (sl a) (sl b)))) else none
  | _, _ => none
theorem rep_strs {p : Pg} {C : Addr → Prop} {H : Hp} : ∀ {ys : List Str}, (ys.all fun s => okS s.cps.toList) = true → RepL p C H (strsD ys) (ys.map V.str)
  | [], _ => .nil
  | y :: ys, h => by
    simp only [List.all_cons, Bool.and_eq_true] at h
    obtain ⟨h1, h2⟩ := okS_iff h.1
    refine .cons ?_ (rep_strs h.2)
    have e : sl y.cps.toList = y := by simp [sl]
    have := repStr (p := p) (C := C) (H := H) h1 h2
    rw [e] at this
    exact this
theorem mri_split : MRI X tb (fun x xs H Q => ∃ a b, x = .str a ∧ xs = [.str b] ∧ (b.length == 0) = false ∧ a.length + 2 ≤ sizeLine ∧ rNewStrs (Txt.split a b) H Q) splitD := fun g σ env H Q x xs vx vs d E rx rs e q => by
  unfold splitD at e
  split at e
  · rename_i a b
    split at e
    · rename_i hc
      obtain ⟨h1, h2, h3, h4⟩ := hc
      cases e
      obtain ⟨v, rfl, rb⟩ := rep1 rs
      simp only [RepP, Rep] at rx rb
      obtain ⟨rfl, _, _⟩ := rx
      obtain ⟨rfl, _, _⟩ := rb
      refine ⟨_, _, rfl, rfl, ?_, by rw [sl_len, size16]; exact h2, fun p hp => ?_⟩
      · rw [sl_len]
        cases b with
        | nil => cases h1
        | cons c b => rfl
      · exact E.newL hp (d := .lst (strsD (Txt.split (sl a) (sl b)))) ⟨_, upd_same, by simp only [strsD, List.length_map]; rw [size16]; exact h4, rep_strs h3⟩ (q _)
    · cases e
  · cases e
theorem qe_split {o e : Expr} {fx f : Env → T D} {apos cpos : Pos} (ho : QP X tb W o fx) (ha : QP X tb W e f) (hbase : attributeBase o "split" X.env (eval o X.env) = eval o X.env := by rfl)
    (hfew : ((backTo cpos (starEach [e] X.env)).all (fun x => !x.1) && (backToKw cpos (keywordEach [] X.env)).all (fun x => x.1.isSome)
      && decide (([e] : List Expr).length + ([] : List Keyword).length + (if ([] : List Keyword).isEmpty then 0 else 1) < 30)) = true := by rfl)
    (hline : (apos.endLine == cpos.line) = true := by rfl) (hs : starEach [e] X.env = [(false, eval e X.env)] := by rfl) (hplain : (backTo cpos (starEach [] X.env)).any (·.1) = false := by rfl) :
    QE X tb W (.Call (.Attribute o "split" apos) [e] [] cpos) (eMeth "str" splitD fx (aCons f aNil)) :=
  qe_meth PySem.F.plainAttrs_str PySem.F.slot_str_split PySem.F.type_str_split mt_split mri_split ho (qap_cons ha qap_nil hs) (.inl rfl) hbase hfew hline hs hplain
/-! ### tuple(x), list(x) -/
def tupleD : List D → Option D
  | [.lst xs] => some (.tup xs)
  | [.tup xs] => some (.tup xs)
  | _ => none
theorem cri_tuple : CRI X tb (fun xs H Q => ∃ p ys, xs = [.ref p] ∧ ((SqL X.K H p ys ∧ ∀ l, H l = none → Q (.ref l) (upd H l (.tup ys))) ∨ (SqT X.K H p ys ∧ Q (.ref p) H))) tupleD := fun g σ env H Q xs vs d E r e q => by
  unfold tupleD at e
  split at e
  · rename_i ds
    cases e
    obtain ⟨v, rfl, r1⟩ := rep1 r
    obtain ⟨a, ws, rfl, _, ea, la, ra⟩ := r1
    refine ⟨a, ws, rfl,   .inl ⟨.inl ea, fun l hl => ?_⟩⟩
    have st := E.alloc (o := .tup ws) hl
    refine q (.ref l) _ st ?_
    simp only [Rep]
    exact ⟨l, ws, rfl, .of upd_same, la, ra.mv (E.mv st)⟩
  · rename_i ds
    cases e
    obtain ⟨v, rfl, r1⟩ := rep1 r
    have r2 := r1
    simp only [RepP, Rep] at r1
    obtain ⟨a, ws, rfl, ea, la, ra⟩ := r1
    exact ⟨a, ws, rfl, .inr ⟨ea, q _ H E.refl r2⟩⟩
  · cases e
theorem qe_tuple {e : Expr} {p : Pos} {f : Env → T D} (hg : Gl X "tuple") (hm : X.mg "tuple" = none) (ha : QP X tb W e f) (hs : starEach [e] X.env = [(false, eval e X.env)] := by rfl) (hpl : (backTo pos (starEach [] X.env)).any (·.1) = false := by rfl) :
    QE X tb W (.Call (.Name "tuple" p) [e] [] pos) (eCall tupleD (aCons f aNil)) := qe_callTy call_tuple_of cri_tuple hg hm (by decide +kernel) (qap_cons ha qap_nil hs) hs hpl
def listD : List D → Option D
  | [.lst xs] => some (.lst xs)
  | [.tup xs] => some (.lst xs)
  | _ => none
/-- list(x): a new list, that floats -/
theorem qo_list {e : Expr} {p : Pos} {f : Env → T D} (hg : Gl X "list") (hm : X.mg "list" = none) (ha : QP X tb W e f) (hs : starEach [e] X.env = [(false, eval e X.env)] := by rfl) (hpl : (backTo pos (starEach [] X.env)).any (·.1) = false := by rfl) :
    QO X tb W (.Call (.Name "list" p) [e] [] pos) (eCall listD (aCons f aNil)) := by
  obtain ⟨t, p1, i1⟩ := (qap_cons ha qap_nil hs).ex
  refine ⟨_, pe_callTy call_list_of hg hm (by decide +kernel) p1 (by decide) (by decide) hs hpl, fun g σ env H Q E hw => ?_⟩
  unfold eCall at hw
  rw [T.wp_bind] at hw
  refine i1 g σ env H _ E (T.wp_mono (fun xs q vs H1 s1 r1 => ?_) (fun _ z => z) hw)
  have E1 := E.step s1
  unfold listD at q
  split at q
  · rename_i ds
    obtain ⟨v, rfl, r2⟩ := rep1 r1
    obtain ⟨a, ws, rfl, _, ea, la, ra⟩ := r2
    refine ⟨a, ws, rfl, .inl (.inl ea), fun l hl => ?_⟩
    obtain ⟨n0, h0⟩ := E1.free0 hl
    exact q l _ (s1.trans (E1.alloc hl)) (E1.float hl) n0 h0 (s1.free hl) ⟨ws, upd_same, la, ra.mv (E1.mvFloat hl)⟩
  · rename_i ds
    obtain ⟨v, rfl, r2⟩ := rep1 r1
    simp only [RepP, Rep] at r2
    obtain ⟨a, ws, rfl, ea, la, ra⟩ := r2
    refine ⟨a, ws, rfl, .inr ea, fun l hl => ?_⟩
    obtain ⟨n0, h0⟩ := E1.free0 hl
    exact q l _ (s1.trans (E1.alloc hl)) (E1.float hl) n0 h0 (s1.free hl) ⟨ws, upd_same, la, ra.mv (E1.mvFloat hl)⟩
  · exact q.elim
/-! ### append -/
def sApp (i : Nat) (f : Env → T D) : Env → T Fl := fun env => match env[i]? with
  | some (.own (.lst xs)) => (f env).bind fun d => if xs.length < 16777216 then .ret (.nx (env.set i (.own (.lst (xs ++ [d]))))) else .bad
  | _ => .bad
theorem ER.objStep {p : Pg} {g : Gh} {σ : St} {env : Env} {H : Hp} (E : ER p g σ env H) {i : Nat} {a : Addr} {o : HO} (h : OwnAt σ env H i a) (mo : Md o) : SStep H (upd H a o) := by
  obtain ⟨u, hu, mu⟩ := E.objAt h
  have oth : ∀ b v, H b = some v → ¬ Md v → upd H a o b = some v := fun b v hv n => by
    rw [upd_ne]
    · exact hv
    · rintro rfl
      rw [hu] at hv; cases hv
      exact n mu
  refine ⟨⟨fun b xs hb => oth b _ hb fun z => z, fun b u w hb => oth b _ hb fun z => z⟩, fun b ⟨u, e, t⟩ => ?_⟩
  by_cases z : b = a
  · subst z; exact ⟨o, upd_same, mo.tb⟩
  · exact ⟨u, by rw [upd_ne z]; exact e, t⟩
theorem qs_app (i : Nat) {x : Str} {e : Expr} {f : Env → T D} {apos cpos npos : Pos} (hN : X.N[i]? = some x := by rfl) (hv : Vis X.env.scope x := by first | exact Or.inl rfl | exact Or.inr (Or.inl rfl) | exact Or.inr (Or.inr rfl)) (ha : QE X tb W e f) (hd : (x == ("__debug__" : Str)) = false := by decide)
    (hcd : (x == ("__classdict__" : Str)) = false := by decide) (hbase : attributeBase (.Name x npos) "append" X.env (eval (.Name x npos) X.env) = eval (.Name x npos) X.env := by rfl)
    (hfew : ((backTo cpos (starEach [e] X.env)).all (fun x => !x.1) && (backToKw cpos (keywordEach [] X.env)).all (fun x => x.1.isSome)
      && decide (([e] : List Expr).length + ([] : List Keyword).length + (if ([] : List Keyword).isEmpty then 0 else 1) < 30)) = true := by rfl)
    (hline : (apos.endLine == cpos.line) = true := by rfl) (hs : starEach [e] X.env = [(false, eval e X.env)] := by rfl) (hplain : (backTo cpos (starEach [] X.env)).any (·.1) = false := by rfl)
    (hsw : swapsWith (.Call (.Attribute (.Name x npos) "append" apos) [e] [] cpos) none pos.line X.env = pure false := by rfl) :
    QS X tb W (.Expr (.Call (.Attribute (.Name x npos) "append" apos) [e] [] cpos) pos) (sApp i f) := by
  obtain ⟨t, p1, i1⟩ := (qa_cons ha qa_nil hs).ex
  refine ⟨_, ps_expr (pe_bm PySem.F.plainAttrs_list PySem.F.slot_list_append PySem.F.type_list_append mt_append (pe_var (i := i) hN hv hd hcd) p1 hbase hfew hline hs hplain) hsw, fun g σ env H Dn E hw => ?_⟩
  unfold sApp at hw
  split at hw
  · rename_i xs he
    rw [T.wp_bind] at hw
    obtain ⟨a, hs, vs, ea, la, ra⟩ := E.slot i _ he
    have hoi : OwnAt σ env H i a := .inl ⟨⟨_, he⟩, hs⟩
    have nc : ¬ g.C a := E.nc hoi
    refine ⟨.ref a, hs, .inl ⟨rfl, _, .inl (.inl ea)⟩, ?_⟩
    refine i1 g σ env H _ E ?_
    unfold aCons
    rw [T.wp_bind]
    refine T.wp_mono (fun d q => ?_) (fun x q cls dx H' s r => q cls dx σ env H' (E.step s) (s.s E) r) hw
    intro us H1 s1 r1
    have E1 := E.step s1
    obtain ⟨u, us', rfl, ru, rn⟩ := (show ∃ v ws, us = v :: ws ∧ Rep (pgOf X tb) g.C H1 d v ∧ RepL (pgOf X tb) g.C H1 [] ws by simpa only [RepL] using r1)
    have rn : us' = [] := by simpa only [RepL] using rn
    subst rn
    split at q
    · rename_i hl
      have ea1 : H1 a = some (.lst vs) := s1.grow a _ ea nc (fun _ => by simp)
      have ra1 := ra.mv (E.mv s1)
      have hz : vs.length < sizeLine := by rw [ra.length, size16]; exact hl
      have w : Mv H1 (upd H1 a (.lst (vs ++ [u]))) → OwnRep (pgOf X tb) g.C (upd H1 a (.lst (vs ++ [u]))) (.lst (xs ++ [d])) a := fun m =>
        ⟨_, upd_same, by rw [List.length_append, size16]; simp; omega, (ra1.app (.one ru)).mv m⟩
      refine ⟨a, vs, u, rfl, rfl, ea1, hz, ?_⟩
      exact q σ _ (E1.write he hs (fun _ => by simp) w) ((s1.s E).trans (E1.objStep (.inl ⟨⟨_, he⟩, hs⟩) trivial))
    · exact q.elim
  · exact hw.elim
end
end MM

namespace MM
open PySem PySem.Spec L2

/-! ### constants of the top, read out of K -/
mutual
def kRep (K : PySem.W.Frag) : D → Value → Bool
  | .non, v => (match v with
    | .none => true
    | _ => false)
  | .bl b, v => (match v with
    | .bool c => b == c
    | _ => false)
  | .int i, v => (match v with
    | .int j _ => decide (i = j)
    | _ => false)
  | .str s, v => (match v with
    | .str x _ => x.cps.toList == s && okS s
    | _ => false)
  | .tup ds, v => (match v with
    | .ref a => (match K.lookup a with
      | some ⟨.type c, _, .seq its _, _⟩ => decide (c = "tuple") && (decide (its.size ≤ 16777216) && kRepL K ds its.toList)
      | _ => false)
    | _ => false)
  | _, _ => false
def kRepL (K : PySem.W.Frag) : List D → List Value → Bool
  | [], vs => (match vs with
    | [] => true
    | _ => false)
  | d :: ds, vs => (match vs with
    | v :: vs => kRep K d v && kRepL K ds vs
    | _ => false)
end
section
variable {K : PySem.W.Frag}
mutual
theorem kRep_ok : ∀ {d : D} {u : Value}, kRep K d u = true → ∃ v, RelV v u ∧ ∀ mg tb, KR ⟨K, mg, tb⟩ v d
  | .non, u, h => by
    unfold kRep at h
    split at h
    · exact ⟨.non, rfl, fun _ _ _ _ => by simp [Rep]⟩
    · cases h
  | .bl b, u, h => by
    unfold kRep at h
    split at h
    · exact ⟨.bl b, by rw [show b = _ from by simpa using h]; rfl, fun _ _ _ _ => by simp [Rep]⟩
    · cases h
  | .int i, u, h => by
    unfold kRep at h
    split at h
    · rename_i j t
      have e : i = j := of_decide_eq_true h
      subst e
      exact ⟨.int i, ⟨t, rfl⟩, fun _ _ _ _ => repI⟩
    · cases h
  | .str s, u, h => by
    unfold kRep at h
    split at h
    · rename_i x t
      exact ⟨.str x, ⟨t, rfl⟩, fun _ _ => kr_str h⟩
    · cases h
  | .tup ds, u, h => by
    unfold kRep at h
    split at h
    · rename_i a
      split at h
      · rename_i c od its n sl hl
        simp only [Bool.and_eq_true] at h
        obtain ⟨h1, h2, h3⟩ := h
        obtain ⟨vs, rv, hr⟩ := kRepL_ok h3
        have e2 : its.size ≤ sizeLine := by rw [size16]; exact of_decide_eq_true h2
        refine ⟨.ref a, rfl, fun mg tb C H => ?_⟩
        simp only [Rep]
        have r := hr mg tb C H
        refine ⟨a, vs, rfl, .inr ⟨_, its, n, hl, congrArg Value.type (of_decide_eq_true h1), rfl, e2, rv⟩, ?_, r⟩
        rw [← r.length, rv.length]
        simpa using e2
      · cases h
    · cases h
  | .lst _, _, h => by simp [kRep] at h
  | .dic _, _, h => by simp [kRep] at h
  | .dit _, _, h => by simp [kRep] at h
  | .cup, _, h => by simp [kRep] at h
  | .fn _, _, h => by simp [kRep] at h
  | .ty _, _, h => by simp [kRep] at h
theorem kRepL_ok : ∀ {ds : List D} {us : List Value}, kRepL K ds us = true → ∃ vs, Vals vs us ∧ ∀ mg tb C H, RepL ⟨K, mg, tb⟩ C H ds vs
  | [], us, h => by
    unfold kRepL at h
    split at h
    · exact ⟨[], .nil, fun _ _ _ _ => .nil⟩
    · cases h
  | d :: ds, us, h => by
    unfold kRepL at h
    split at h
    · rename_i u us
      simp only [Bool.and_eq_true] at h
      obtain ⟨v, r1, k1⟩ := kRep_ok h.1
      obtain ⟨vs, r2, k2⟩ := kRepL_ok h.2
      exact ⟨v :: vs, .cons r1 r2, fun mg tb C H => .cons (k1 mg tb C H) (k2 mg tb C H)⟩
    · cases h
end
/-- the module's name x stands for d -/
def ConAt (K : PySem.W.Frag) (mg : Str → Option Value) (x : Str) (d : D) : Prop := ∃ v u, mg x = some u ∧ RelV v u ∧ ∀ tb, KR ⟨K, mg, tb⟩ v d
def conB (K : PySem.W.Frag) (x : Str) (d : D) : Bool := match PySem.W.nsIn K mainGlobals x with
  | some (some u) => kRep K d u
  | _ => false
theorem con_ok {mg : Str → Option Value} {h : Heap} {x : Str} {d : D} (X : K.In h) (G : h.Ns mainGlobals mg) (c : conB K x d = true) : ConAt K mg x d := by
  unfold conB at c
  split at c
  · rename_i u hu
    obtain ⟨v, r, k⟩ := kRep_ok c
    exact ⟨v, u, PySem.W.mg_of X G hu, r, fun tb => k mg tb⟩
  · cases c
/-- the module's name x stands for a dict with text keys -/
def DctAt (K : PySem.W.Frag) (w : World) (mg : Str → Option Value) (x : Str) (f : List (List Nat × D)) : Prop := ∃ a, mg x = some (.ref a) ∧ ∀ q ∈ f, ∃ v, KDct K w a (sl q.1) v ∧ ∀ mg tb, KR ⟨K, mg, tb⟩ v q.2
def dctB (K : PySem.W.Frag) (a : Addr) (f : List (List Nat × D)) : Bool := f.all fun q => match PySem.W.nsIn K a (sl q.1) with
  | some (some u) => kRep K q.2 u
  | _ => false
theorem dct_ok {w : World} {mg : Str → Option Value} {x : Str} {f : List (List Nat × D)} {a : Addr} {es : Array DictEntry} {n : Nat} (hm : mg x = some (.ref a)) (k : KDict K w a es n) (c : dctB K a f = true) : DctAt K w mg x f := by
  refine ⟨a, hm, fun q hq => ?_⟩
  have h := List.all_eq_true.mp c q hq
  split at h
  · rename_i u hu
    obtain ⟨v, r, k'⟩ := kRep_ok h
    exact ⟨v, ⟨es, n, u, k.at_, k.lit, hu, r⟩, k'⟩
  · cases h
end
def lookN {α : Type} : List (List Nat × α) → List Nat → Option α
  | [], _ => none
  | (x, r) :: q, y => if eqNats x y then some r else lookN q y
theorem lookN_mem {α : Type} {y : List Nat} {r : α} : ∀ {dp : List (List Nat × α)}, lookN dp y = some r → (y, r) ∈ dp
  | [], h => by cases h
  | (x, r') :: q, h => by
    unfold lookN at h
    rw [eqNats_eq] at h
    split at h
    · rename_i e
      have e := of_decide_eq_true e
      subst e
      cases h
      exact List.mem_cons_self
    · exact List.mem_cons_of_mem _ (lookN_mem h)
def dgetK (f : List (List Nat × D)) : D → Option D
  | .str s => lookN f s
  | _ => none
section
variable {X : Cx} {tb : Tb} {W : WX} {pos : Pos}
theorem qe_con {x : Str} {d : D} (k : ConAt X.K X.mg x d) (hg : Gl X x := by rfl) (hd : (x == ("__debug__" : Str)) = false := by decide) : QE X tb W (.Name x pos) (eC d) := by
  obtain ⟨v, u, h1, h2, h3⟩ := k
  exact qe_glob h1 h2 (h3 tb) hg hd
theorem qe_ixK {x : Str} {f : List (List Nat × D)} {i : Expr} {fi : Env → T D} {p : Pos} (k : DctAt X.K X.w X.mg x f) (h : QP X tb W i fi) (hs : PlainIx i := by exact fun _ _ => rfl) (hg : Gl X x := by rfl) (hd : (x == ("__debug__" : Str)) = false := by decide) :
    QE X tb W (.Subscript (.Name x p) i pos) (e1 (dgetK f) fi) := by
  obtain ⟨a, hm, hk⟩ := k
  obtain ⟨t, h1, h2⟩ := h.ex
  refine ⟨_, pe_ix ix_kdict (pe_glob (v := .ref a) hg hm rfl hd) h1 hs, fun g σ env H Q E hw => ?_⟩
  unfold e1 at hw
  rw [T.wp_bind] at hw
  refine h2 g σ env H _ E (T.wp_mono (fun x q vx H1 s1 r1 => ?_) (fun _ z => z) hw)
  cases x with
  | str s =>
    cases hl : lookN f s with
    | none => rw [show dgetK f (.str s) = none from hl] at q; exact q.elim
    | some d =>
      rw [show dgetK f (.str s) = some d from hl] at q
      simp only [RepP, Rep] at r1
      obtain ⟨rfl, _, _⟩ := r1
      obtain ⟨v, kd, kr⟩ := hk _ (lookN_mem hl)
      exact ⟨a, _, v, rfl, rfl, kd, q v H1 s1 (kr X.mg tb _ _)⟩
  | _ => exact q.elim
/-! ### index -/
def strsOf : List D → Option (List (List Nat))
  | [] => some []
  | .str x :: xs => (strsOf xs).map fun r => x :: r
  | _ => none
def idxS : List (List Nat) → List Nat → Nat → Option Nat
  | [], _, _ => none
  | x :: xs, y, n => if eqNats x y then some n else idxS xs y (Nat.succ n)
def indexD : D → List D → Option D
  | .lst xs, [.str s] => (strsOf xs).bind fun ss => (idxS ss s 0).map fun (n : Nat) => D.int (Int.ofNat n)
  | _, _ => none
theorem strsOf_eq : ∀ {xs : List D} {ss : List (List Nat)}, strsOf xs = some ss → xs = ss.map D.str
  | [], ss, h => by cases h; rfl
  | .str x :: xs, ss, h => by
    simp only [strsOf, Option.map_eq_some_iff] at h
    obtain ⟨r, h1, rfl⟩ := h
    rw [strsOf_eq h1]
    rfl
  | .non :: _, _, h | .bl _ :: _, _, h | .int _ :: _, _, h | .lst _ :: _, _, h | .tup _ :: _, _, h | .dic _ :: _, _, h | .cup :: _, _, h | .fn _ :: _, _, h | .ty _ :: _, _, h => by cases h
theorem repStrs {p : Pg} {C : Addr → Prop} {H : Hp} : ∀ {ss : List (List Nat)} {vs : List V}, RepL p C H (ss.map D.str) vs → vs = ss.map fun s => V.str (sl s)
  | [], _, h => by simpa [RepL] using h
  | s :: ss, _, h => by
    simp only [List.map_cons, RepL] at h
    obtain ⟨v, ws, rfl, r, q⟩ := h
    simp only [Rep] at r
    rw [r.1, repStrs q]
    rfl
theorem idxS_ok {y : List Nat} : ∀ {ss : List (List Nat)} {k n : Nat}, idxS ss y k = some n → ∃ j, n = k + j ∧ ss[j]? = some y ∧ ∀ m s', m < j → ss[m]? = some s' → s' ≠ y
  | [], _, _, h => by cases h
  | x :: xs, k, n, h => by
    unfold idxS at h
    rw [eqNats_eq] at h
    split at h
    · rename_i e
      have e := of_decide_eq_true e
      subst e
      cases h
      exact ⟨0, rfl, rfl, fun m _ hm => absurd hm (Nat.not_lt_zero m)⟩
    · rename_i e
      obtain ⟨j, h1, h2, h3⟩ := idxS_ok h
      refine ⟨j + 1, by omega, by simpa using h2, fun m s' hm hs => ?_⟩
      cases m with
      | zero =>
        have hs : x = s' := by simpa using hs
        subst hs
        simpa using e
      | succ m => exact h3 m s' (by omega) (by simpa using hs)
theorem sl_inj' {a b : List Nat} (h : sl a = sl b) : a = b := by
  have := congrArg (fun s : Str => s.cps.toList) h
  simpa [sl] using this
theorem mri_index : MRI X tb (rIndex X.K) indexD := fun g σ env H Q x xs vx vs d E rx rs e q => by
  unfold indexD at e
  split at e
  · rename_i xs s
    simp only [Option.bind_eq_some_iff, Option.map_eq_some_iff] at e
    obtain ⟨ss, h1, n, h2, rfl⟩ := e
    rw [strsOf_eq h1] at rx
    obtain ⟨v, rfl, rb⟩ := rep1 rs
    obtain ⟨a, ws, rfl, _, ea, la, ra⟩ := rx
    simp only [RepP, Rep] at rb
    obtain ⟨rfl, _, _⟩ := rb
    have ew := repStrs ra
    obtain ⟨j, e1, e2, e3⟩ := idxS_ok h2
    have e1 : n = j := by omega
    subst e1
    refine ⟨a, ws, _, n, .str (sl s), rfl, rfl, .inl ea, rfl, ?_, ?_, ?_, fun m z hm hz => ?_, .done (q _ H E.refl repI)⟩
    · rw [ew]
      simp [flatV]
    · rw [ew, List.getElem?_map, e2]
      rfl
    · simp [eqV]
    · rw [ew, List.getElem?_map] at hz
      cases hs : ss[m]? with
      | none => rw [hs] at hz; cases hz
      | some s' =>
        rw [hs] at hz
        cases hz
        have ne := e3 m s' hm hs
        simp only [eqV, beq_eq_false_iff_ne]
        exact fun z => ne (sl_inj' z)
  · cases e
theorem qe_index {o e : Expr} {fx f : Env → T D} {apos cpos : Pos} (ho : QP X tb W o fx) (ha : QP X tb W e f) (hbase : attributeBase o "index" X.env (eval o X.env) = eval o X.env := by rfl)
    (hfew : ((backTo cpos (starEach [e] X.env)).all (fun x => !x.1) && (backToKw cpos (keywordEach [] X.env)).all (fun x => x.1.isSome)
      && decide (([e] : List Expr).length + ([] : List Keyword).length + (if ([] : List Keyword).isEmpty then 0 else 1) < 30)) = true := by rfl)
    (hline : (apos.endLine == cpos.line) = true := by rfl) (hs : starEach [e] X.env = [(false, eval e X.env)] := by rfl) (hplain : (backTo cpos (starEach [] X.env)).any (·.1) = false := by rfl) :
    QE X tb W (.Call (.Attribute o "index" apos) [e] [] cpos) (eMeth "list" indexD fx (aCons f aNil)) :=
  qe_meth PySem.F.plainAttrs_list PySem.F.slot_list_index PySem.F.type_list_index mt_index mri_index ho (qap_cons ha qap_nil hs) (.inr rfl) hbase hfew hline hs hplain
end
end MM

namespace MM
open PySem PySem.Spec L2

/-! ### defs that make lambdas: their code object is known -/
def DefAtC (K : PySem.W.Frag) (mg : Str → Option Value) (x : Str) (st : Stmt) (ps : List Str) (c : Addr) : Prop := ∃ f fd, Fun K x x st f fd ∧ mg x = some (.ref f) ∧ Binds K fd ps [] ∧ fd.code = .ref c
def MkAt (K : PySem.W.Frag) (mg : Str → Option Value) (base : Heap) (l : List (Addr × Str)) (x : Str) (st : Stmt) (ps : List Str) (q : Str) : Prop :=
  ∃ c P, DefAtC K mg x st ps c ∧ LamX.TabB base mg c P ∧ (P, q) ∈ l ∧ ∀ p ∈ l, p.1 = P → p.2 = q
section
variable {P : Program} {w : World} {K : PySem.W.Frag} {mg : Str → Option Value} {base : Heap} {l : List (Addr × Str)}
theorem MkAt.d {x : Str} {st : Stmt} {ps : List Str} {q : Str} (M : MkAt K mg base l x st ps q) : DefAt K mg x st ps := by
  obtain ⟨_, _, ⟨f, fd, F, g, b, _⟩, _⟩ := M
  exact ⟨f, fd, F, g, b⟩
theorem OkF.mkC {x : Str} {st : Stmt} {N ps : List Str} {k n : Nat} {gS : Env → T Fl} {q : Str} (M : MkAt K mg base l x st ps q) (S : FnScope N ps (defScope st)) (hn : ps.length = n)
    (hbody : ∀ (c Pt : Addr), LamX.TabB base mg c Pt → (Pt, q) ∈ l → (∀ p ∈ l, p.1 = Pt → p.2 = q) → ∀ (f : Addr) (A : Around) (outer : List PySem.Env) (s : Shared) (H : Hp) (E : XK), Room k (A.deeper (PyProof.Rows.envOfC x (defScope st) s.heap.objs.size f (.ref c))) →
      QB (cxOf (L2.CX P w) P w K mg base N x (defScope st) f (.ref c) A outer s H E) (tb0 l) (fun cls d _ H' => E cls d H') (defBody st) gS) :
    OkF P w K mg base l (k + 1) n x ps (runB N.length gS) := by
  obtain ⟨c, Pt, ⟨f, fd, F, g, b, hc⟩, TB, h1, h2⟩ := M
  refine ⟨f, fd, g, F.kp, b, ?_⟩
  obtain ⟨oc, od, kV, doc, pm, an, cdv, ct, osl, e, lk, hcd⟩ := F.ex
  subst e
  have hc : cdv = .ref c := hc
  subst hc
  refine fn_of lk hcd S (fun vs H Q E h => ?_) fun A outer s H vs Q E hr h => ?_
  · obtain ⟨_, _, _, hl, _⟩ := h
    rw [hl, hn]
  · obtain ⟨N0, C, ds, hl, hC, hcup, hn0, tabs, r, hw⟩ := h
    obtain ⟨t, p1, i1⟩ := (hbody c Pt TB h1 h2 f A outer s H E hr).ex
    refine ⟨t, p1, ?_⟩
    have hpl : ps.length ≤ N.length := by have := congrArg List.length S.pre; rw [List.length_take] at this; omega
    have E0 := er_start (p := ⟨K, mg, tb0 l⟩) (N := N) hC (by rw [hl, ← hn]; exact hpl) hcup hn0 tabs rfl r
    unfold runB at hw
    rw [T.wp_bind] at hw
    refine i1 _ _ _ H _ E0 (T.wp_mono (fun fl q => ?_) (fun x q => ?_) hw)
    · cases fl with
      | nx e' => exact fun σ' H' E' _ => q .non H' E'.out (by simp [Rep])
      | bk e' => exact q.elim
      | ct e' => exact q.elim
      | rt d => exact fun v σ' e' H' E' _ r' => q v H' E'.out r'
    · exact fun cls dx σ' env' H' E' _ r' => q cls dx H' E'.out r'
theorem ClsAt.at_ {x : Str} (c : ClsAt K mg x) : ∃ v, mg x = some v := by
  obtain ⟨C, h, _⟩ := c
  exact ⟨_, h⟩
theorem am_nil : ∀ q ∈ ([] : List (Str × (Env → T Fl))), ∃ v, mg q.1 = some v := fun _ h => absurd h List.not_mem_nil
theorem am_cons {x : Str} {f : Env → T Fl} {r : List (Str × (Env → T Fl))} (h : ∃ v, mg x = some v) (hr : ∀ q ∈ r, ∃ v, mg q.1 = some v) : ∀ q ∈ (x, f) :: r, ∃ v, mg q.1 = some v := fun q hq => by
  rcases List.mem_cons.mp hq with rfl | hq
  · exact h
  · exact hr q hq
/-- classes told by a list of pairs -/
def subOf (t : List (Str × Str × Bool)) (x y : Str) : Option Bool := (t.find? fun q => q.1 == x && q.2.1 == y).map (·.2.2)
theorem sub_of {t : List (Str × Str × Bool)} (h : ∀ q ∈ t, ∃ u v, mg q.1 = some u ∧ mg q.2.1 = some v ∧ PySem.W.exmOne K u v = some q.2.2) : SubAt K mg (subOf t) := fun x y b hb => by
  unfold subOf at hb
  simp only [Option.map_eq_some_iff] at hb
  obtain ⟨q, hq, rfl⟩ := hb
  have hm := List.mem_of_find?_eq_some hq
  have hp := List.find?_some hq
  simp only [Bool.and_eq_true, beq_iff_eq] at hp
  obtain ⟨rfl, rfl⟩ := hp
  exact h q hm
end
section
variable {X : Cx} {tb : Tb} {W : WX} {pos : Pos}
theorem qe_fnv {x : Str} {s : List Nat} {st : Stmt} {ps : List Str} (d : DefAt X.K X.mg x st ps) (hs : (x.cps.toList == s && !s.isEmpty) = true := by decide +kernel) (hg : Gl X x := by rfl) (hd : (x == ("__debug__" : Str)) = false := by decide) : QE X tb W (.Name x pos) (eC (.fn s)) := by
  obtain ⟨f, fd, F, g, b⟩ := d
  simp only [Bool.and_eq_true, beq_iff_eq] at hs
  obtain ⟨h1, h2⟩ := hs
  refine qe_glob (v := .ref f) g rfl (fun C H => ?_) hg hd
  simp only [Rep]
  refine ⟨f, rfl, .inl ⟨fun z => ?_, ?_⟩⟩
  · subst z
    cases h2
  · subst h1
    have e : sl x.cps.toList = x := by simp [sl]
    rw [e]
    exact g
theorem dp_nil {P : Program} {w : World} {K : PySem.W.Frag} {mg : Str → Option Value} {base : Heap} {l : List (Addr × Str)} {k : Nat} : ∀ q ∈ ([] : Disp), ∃ ps, OkF P w K mg base l k q.2.1 (sl q.1) ps q.2.2 := fun _ h => absurd h List.not_mem_nil
theorem dp_cons {P : Program} {w : World} {K : PySem.W.Frag} {mg : Str → Option Value} {base : Heap} {l : List (Addr × Str)} {k n : Nat} {x : Str} {s : List Nat} {ps : List Str} {m : List D → T D} {r : Disp} (h : OkF P w K mg base l k n x ps m) (hs : (x.cps.toList == s) = true)
    (hr : ∀ q ∈ r, ∃ ps, OkF P w K mg base l k q.2.1 (sl q.1) ps q.2.2) : ∀ q ∈ (s, n, m) :: r, ∃ ps, OkF P w K mg base l k q.2.1 (sl q.1) ps q.2.2 := fun q hq => by
  rcases List.mem_cons.mp hq with rfl | hq
  · have hs : x.cps.toList = s := by simpa using hs
    subst hs
    have e : sl x.cps.toList = x := by simp [sl]
    exact ⟨ps, by rw [e]; exact h⟩
  · exact hr q hq
end
end MM

namespace MM
open PySem PySem.Spec L2

/-- the law's body, whose first row makes the cup and one thing more -/
theorem law_body2 {X : Cx} {tb : List (Addr × Str)} {W : WX} {st : Stmt} {rest : List Stmt} {h : Env → T Fl} {fe : Env → T D} {i j : Nat} {Ec : L2.St → XK} {Q : VK} {a : Addr} {ns : List Int} {H : Hp} (hN : 0 < X.N.length) (hi : i < X.N.length) (hj : j < X.N.length) (hij : i ≠ j)
    (hst : PS X st (tPar i j (tCons (tCallS (spCup X.K) Ec (tCons (tVar 0) tNil)) (tCons (rdE (pgOf X (tb0 tb)) W fe) tNil)))) (hb : QB X (tb0 tb) W rest h) (hS : SqL X.K H a (ns.map V.int)) (hl : ns.length ≤ 63) (ht : LamX.Tabs tb H) (hQ : ∀ H', Q (.bl true) H')
    (hw : ((fe (List.replicate X.N.length .no)).bind fun d => h ((lawEnv X.N.length i).set j (.frz d))).wp lawPost fun _ => False) : ∃ t, PSs X (st :: rest) t ∧ t { nx := fun _ H' => Q .non H', rt := Q } (L2.start X.N [.ref a]) H := by
  obtain ⟨u, p2, i2⟩ := hb.ex
  refine ⟨_, pss_cons hst p2, ?_⟩
  refine ⟨.ref a, ?_, a, ns, rfl, hS, hl, fun H1 p sm np cp => ?_⟩
  · unfold L2.start
    rfl
  have hlen : (L2.start X.N [.ref a]).length = X.N.length := by unfold L2.start; simp; omega
  obtain ⟨c, d, e, _⟩ := id cp
  have hob : Ob H1 p := ⟨_, e, fun _ => by simp⟩
  have E0 : ER (pgOf X (tb0 tb)) ⟨H1, fun b => b = p, fun b => b = p, fun _ z => z⟩ (L2.start X.N [.ref a]) (List.replicate X.N.length .no) H1 := by
    have noown : ∀ j b, ¬ OwnAt (L2.start X.N [.ref a]) (List.replicate X.N.length Sl.no) H1 j b := fun j b => by
      rintro (⟨⟨d, e⟩, _⟩ | ⟨⟨d, e⟩, _⟩) <;> cases vo_no e
    refine ⟨by simp [hlen], fun b o h _ _ => h, fun b h => h, fun b z => by rw [show b = p from z]; exact cp, fun q hq => (ht q hq).ext fun b o e => sm b o e, fun b z => (show b = p from z) ▸ hob, fun j s hs => ?_, fun j k b h => (noown j b h).elim, fun j b h => (noown j b h).elim, fun t z => by cases z⟩
    cases vo_no hs
    trivial
  rw [T.wp_bind] at hw
  refine ⟨_, _, E0, T.wp_mono (fun d q v H2 s r => ?_) (fun _ z => z.elim) hw⟩
  refine ⟨.ref p, v, rfl, ?_⟩
  have rp : Rep (pgOf X (tb0 tb)) (fun b => b = p) H2 .cup (.ref p) := by
    simp only [Rep]
    exact ⟨p, rfl, rfl⟩
  have E1 := (E0.step s).setF (i := i) (by simpa using hi) rp
  have E2 := E1.setF (i := j) (by simpa using hj) r
  refine i2 _ _ _ H2 _ E2 (T.wp_mono (fun fl q => ?_) (fun _ z => z.elim) q)
  cases fl with
  | rt d =>
    cases d with
    | bl b =>
      cases b with
      | true =>
        intro v σ' e' H' _ _ r
        simp only [Rep] at r
        subst r
        exact hQ H'
      | false => exact q.elim
    | _ => exact q.elim
  | _ => exact q.elim
end MM

namespace MM
open PySem PySem.Spec L2
/-- a def of the top as a fact of the head -/
abbrev dd (x : Str) (st : Stmt) : He.DefD := ⟨(x, none), x, x, defArgs st, defBody st, defScope st, [], []⟩
section
variable {K : PySem.W.Frag} {h : Heap} {mg : Str → Option Value} {fa : List He.Fa} {fn : List He.DefD} {base : Heap} {l : List (Addr × Str)}
theorem defAt_of {x : Str} {st : Stmt} {ps : List Str} (X : K.In h) (G : h.Ns mainGlobals mg) (c : He.SaysD fa fn K) (i j : Nat) (b : ∀ (kV doc pm : Value) (an : Option Addr) (cdv ct : Value) (us : List Value), us.length = ps.length → bindArgs (PySem.W.fnOf x x (defArgs st) (defBody st) (defScope st) .none kV doc pm an cdv ct) ⟨us, []⟩ = pure (ps.zip us))
    (hg : fa[i]? = some (.glo x) := by rfl) (hd : fn[j]? = some (dd x st) := by rfl) : DefAt K mg x st ps := by
  obtain ⟨fd, F⟩ := c.def_ j hd
  exact ⟨_, fd, He5.fun_of F, He.glo_ok X G (c.fact i hg), F.bindsN b⟩
theorem mkAt_of {x q : Str} {st : Stmt} {ps : List Str} (X : K.In h) (G : h.Ns mainGlobals mg) (c : He.SaysD fa fn K) (i j : Nat) (b : ∀ (kV doc pm : Value) (an : Option Addr) (cdv ct : Value) (us : List Value), us.length = ps.length → bindArgs (PySem.W.fnOf x x (defArgs st) (defBody st) (defScope st) .none kV doc pm an cdv ct) ⟨us, []⟩ = pure (ps.zip us))
    (TB : LamX.TabB base mg (He.cT K (x, none)).1 (He.cT K (x, none)).2) (h1 : ((He.cT K (x, none)).2, q) ∈ l) (h2 : ∀ p ∈ l, p.1 = (He.cT K (x, none)).2 → p.2 = q) (hg : fa[i]? = some (.glo x) := by rfl) (hd : fn[j]? = some (dd x st) := by rfl) : MkAt K mg base l x st ps q := by
  obtain ⟨fd, F⟩ := c.def_ j hd
  have F' := He5.fun_of F
  refine ⟨_, _, ⟨_, fd, F', He.glo_ok X G (c.fact i hg), F.bindsN b, ?_⟩, TB, h1, h2⟩
  obtain ⟨oc, od, kV, doc, pm, an, cdv, ct, osl, e, lk, hcd⟩ := F'.ex
  obtain ⟨c', hc⟩ := He.codeIn_ref hcd
  subst e
  have e1 : He.codeOf K (x, none) = c' := He.codeOf_eq (p := (x, none)) lk hc
  show cdv = .ref (He.codeOf K (x, none))
  rw [e1, hc]
theorem clsAt_of {x : Str} (X : K.In h) (G : h.Ns mainGlobals mg) (c : He.SaysD fa fn K) (i j : Nat) (hg : fa[i]? = some (.glo x) := by rfl) (hd : fa[j]? = some (.exc x) := by rfl) : ClsAt K mg x := by
  obtain ⟨h1, h2, h3, h4⟩ := He.exc_ok (c.fact j hd)
  exact ⟨_, He.glo_ok X G (c.fact i hg), h1, h2, h3, h4⟩
theorem exm_of' {x y : Str} {b : Bool} (X : K.In h) (G : h.Ns mainGlobals mg) (c : He.SaysD fa fn K) (i j k : Nat) (hx : fa[i]? = some (.glo x) := by rfl) (hy : fa[j]? = some (.glo y) := by rfl) (he : fa[k]? = some (.exm x y b) := by rfl) : ∃ u v, mg x = some u ∧ mg y = some v ∧ PySem.W.exmOne K u v = some b :=
  ⟨_, _, He.glo_ok X G (c.fact i hx), He.glo_ok X G (c.fact j hy), He.exm_ok (c.fact k he)⟩
theorem sub_nil : ∀ q ∈ ([] : List (Str × Str × Bool)), ∃ u v, mg q.1 = some u ∧ mg q.2.1 = some v ∧ PySem.W.exmOne K u v = some q.2.2 := fun _ h => absurd h List.not_mem_nil
theorem sub_cons {x y : Str} {b : Bool} {t : List (Str × Str × Bool)} (h : ∃ u v, mg x = some u ∧ mg y = some v ∧ PySem.W.exmOne K u v = some b) (r : ∀ q ∈ t, ∃ u v, mg q.1 = some u ∧ mg q.2.1 = some v ∧ PySem.W.exmOne K u v = some q.2.2) :
    ∀ q ∈ (x, y, b) :: t, ∃ u v, mg q.1 = some u ∧ mg q.2.1 = some v ∧ PySem.W.exmOne K u v = some q.2.2 := fun q hq => by
  rcases List.mem_cons.mp hq with rfl | hq
  · exact h
  · exact r q hq
end
end MM

namespace MM
open PySem PySem.Spec L2

section
variable {X : Cx} {tb : Tb} {W : WX} {pos : Pos}
/-! ### a dict made: {} -/
def eDic0 : Env → T D := fun _ => .ret (.dic [])
theorem qo_dic0 : QO X tb W (.Dict [] [] pos) eDic0 := by
  refine ⟨_, pe_dnewK, fun g σ env H Q E hw p hp => ?_⟩
  obtain ⟨n0, h0⟩ := E.free0 hp
  exact hw p _ (E.alloc hp) (E.float hp) n0 h0 (nOb hp) ⟨[], upd_same, ⟨Nat.zero_le _, rfl⟩, by simp [RepK]⟩
/-! ### d.get -/
def eGet1 (fd fk : Env → T D) : Env → T D := fun env => (fd env).bind fun x => match x with
  | .dic kvs => (fk env).bind fun k => if isK k then .ret ((findK k kvs).getD .non) else .bad
  | _ => .bad
def eGet2 (fd fk fx : Env → T D) : Env → T D := fun env => (fd env).bind fun x => match x with
  | .dic kvs => (fk env).bind fun k => (fx env).bind fun z => if isK k then .ret ((findK k kvs).getD z) else .bad
  | _ => .bad
theorem rep_key {p : Pg} {C : Addr → Prop} {H : Hp} {k : D} {v : V} (hk : isK k = true) (r : RepP p C H k v) : Rep p C H k v := by
  cases k <;> first | exact r | cases hk
theorem qe_get1 {o e : Expr} {fd fk : Env → T D} {apos cpos : Pos} (hu : X.A.units + 65 < cLine) (ho : QP X tb W o fd) (hk : QP X tb W e fk) (b1 : attributeBase o "get" X.env (eval o X.env) = eval o X.env := by rfl)
    (b2 : ((backTo cpos (starEach [e] X.env)).all (fun x => !x.1) && (backToKw cpos (keywordEach [] X.env)).all (fun x => x.1.isSome) && decide (([e] : List Expr).length + ([] : List Keyword).length + (if ([] : List Keyword).isEmpty then 0 else 1) < 30)) = true := by rfl)
    (b3 : (apos.endLine == cpos.line) = true := by rfl) (b4 : backTo cpos (starEach [e] X.env) = [(false, eval e X.env)] := by rfl) : QE X tb W (.Call (.Attribute o "get" apos) [e] [] cpos) (eGet1 fd fk) := by
  obtain ⟨t1, p1, i1⟩ := ho.ex
  obtain ⟨t2, p2, i2⟩ := hk.ex
  refine ⟨_, pe_dget1 (by omega) p1 p2 ⟨b1, b2, b3, b4⟩, fun g σ env H Q E hw => ?_⟩
  unfold eGet1 at hw
  rw [T.wp_bind] at hw
  refine i1 g σ env H _ E (T.wp_mono (fun x q vx H1 s1 r1 => ?_) (fun _ z => z) hw)
  have E1 := E.step s1
  cases x with
  | dic kvs =>
    dsimp only at q
    rw [T.wp_bind] at q
    have r1' := r1
    obtain ⟨a, kws, rfl, _, ea, la, ra⟩ := r1
    refine ⟨a, rfl, .inl ⟨kws, ea⟩, i2 g σ env H1 _ E1 (T.wp_mono (fun k q vk H2 s2 r2 => ?_) (wpStep s1) q)⟩
    split at q
    · rename_i hk
      obtain ⟨a', kws, ea', nc, eb, lb, rb⟩ := r1'.step E1 s2
      cases ea'
      have rk := rep_key hk r2
      obtain ⟨kk, rfl⟩ := rk.key hk
      refine ⟨valV kws kk, .inl ⟨kws, kk, eb, rfl, rfl⟩, ?_⟩
      rcases RepK.find rk rb with ⟨z1, z2⟩ | ⟨d, v, z1, z2, r⟩
      · rw [z1] at q
        rw [z2]
        exact q _ H2 (s1.trans s2) (by simp [Rep])
      · rw [z1] at q
        rw [z2]
        exact q _ H2 (s1.trans s2) r
    · exact q.elim
  | _ => exact q.elim
theorem qe_get2 {o e x : Expr} {fd fk fx : Env → T D} {apos cpos : Pos} (hu : X.A.units + 65 < cLine) (ho : QP X tb W o fd) (hk : QP X tb W e fk) (hx : QE X tb W x fx) (b1 : attributeBase o "get" X.env (eval o X.env) = eval o X.env := by rfl)
    (b2 : ((backTo cpos (starEach [e, x] X.env)).all (fun x => !x.1) && (backToKw cpos (keywordEach [] X.env)).all (fun x => x.1.isSome) && decide (([e, x] : List Expr).length + ([] : List Keyword).length + (if ([] : List Keyword).isEmpty then 0 else 1) < 30)) = true := by rfl)
    (b3 : (apos.endLine == cpos.line) = true := by rfl) (b4 : backTo cpos (starEach [e, x] X.env) = [(false, eval e X.env), (false, eval x X.env)] := by rfl) : QE X tb W (.Call (.Attribute o "get" apos) [e, x] [] cpos) (eGet2 fd fk fx) := by
  obtain ⟨t1, p1, i1⟩ := ho.ex
  obtain ⟨t2, p2, i2⟩ := hk.ex
  obtain ⟨t3, p3, i3⟩ := hx.ex
  refine ⟨_, pe_dget2 (by omega) p1 p2 p3 ⟨b1, b2, b3, b4⟩, fun g σ env H Q E hw => ?_⟩
  unfold eGet2 at hw
  rw [T.wp_bind] at hw
  refine i1 g σ env H _ E (T.wp_mono (fun x q vx H1 s1 r1 => ?_) (fun _ z => z) hw)
  have E1 := E.step s1
  cases x with
  | dic kvs =>
    dsimp only at q
    rw [T.wp_bind] at q
    have r1' := r1
    obtain ⟨a, kws, rfl, _, ea, la, ra⟩ := r1
    refine ⟨a, rfl, .inl ⟨kws, ea⟩, i2 g σ env H1 _ E1 (T.wp_mono (fun k q vk H2 s2 r2 => ?_) (wpStep s1) q)⟩
    have E2 := E1.step s2
    rw [T.wp_bind] at q
    refine i3 g σ env H2 _ E2 (T.wp_mono (fun z q vz H3 s3 r3 => ?_) (wpStep (s1.trans s2)) q)
    split at q
    · rename_i hk
      obtain ⟨a', kws, ea', nc, eb, lb, rb⟩ := (r1'.step E1 s2).step E2 s3
      cases ea'
      have rk := rep_key hk (r2.step E2 s3)
      obtain ⟨kk, rfl⟩ := rk.key hk
      refine ⟨valV kws kk, .inl ⟨kws, kk, eb, rfl, rfl⟩, ?_⟩
      rcases RepK.find rk rb with ⟨z1, z2⟩ | ⟨d, v, z1, z2, r⟩
      · rw [z1] at q
        rw [z2]
        exact q _ H3 (s1.trans (s2.trans s3)) r3
      · rw [z1] at q
        rw [z2]
        exact q _ H3 (s1.trans (s2.trans s3)) r
    · exact q.elim
  | _ => exact q.elim

/-! ### d[k] = v on a dict of one's own -/
def sPut (i : Nat) (fk fv : Env → T D) : Env → T Fl := fun env => (fv env).bind fun v => match env[i]? with
  | some (.own (.dic kvs)) => (fk env).bind fun k => if isK k && decide (kvs.length < 16777216) then .ret (.nx (env.set i (.own (.dic (putD k v kvs))))) else .bad
  | _ => .bad
theorem qs_put (i : Nat) {x : Str} {ek ev : Expr} {fk fv : Env → T D} {p1 p2 : Pos} (hu : X.A.units + 65 < cLine) (hk : QP X tb W ek fk) (hv : QE X tb W ev fv) (hN : X.N[i]? = some x := by rfl) (hvis : Vis X.env.scope x := by first | exact Or.inl rfl | exact Or.inr (Or.inl rfl) | exact Or.inr (Or.inr rfl))
    (hd : (x == ("__debug__" : Str)) = false := by decide) (hcd : (x == ("__classdict__" : Str)) = false := by decide) (hs : swapsWith ev (some (.Subscript (.Name x p1) ek p2)) pos.line X.env = pure false := by rfl) :
    QS X tb W (.Assign [.Subscript (.Name x p1) ek p2] ev pos) (sPut i fk fv) := by
  obtain ⟨t1, p1', i1⟩ := hk.ex
  obtain ⟨t2, p2', i2⟩ := hv.ex
  refine ⟨_, ps_dput (by omega) (pe_var (i := i) hN hvis hd hcd) p1' p2' hs, fun g σ env H Dn E hw => ?_⟩
  unfold sPut at hw
  rw [T.wp_bind] at hw
  refine i2 g σ env H _ E (T.wp_mono (fun d q v H1 s1 r1 => ?_) (fun x q => xps E x q) hw)
  have E1 := E.step s1
  split at q
  · rename_i kvs he
    rw [T.wp_bind] at q
    obtain ⟨a, hs, vs, ea, la, ra⟩ := E1.slot i _ he
    have hoi : OwnAt σ env H1 i a := .inl ⟨⟨_, he⟩, hs⟩
    refine ⟨.ref a, hs, i1 g σ env H1 _ E1 (T.wp_mono (fun k q vk H2 s2 r2 => ?_) (fun x q cls dx H' s r => q cls dx σ env H' (E.step (s1.trans s)) ((s1.trans s).s E) r) q)⟩
    split at q
    · rename_i hc
      simp only [Bool.and_eq_true, decide_eq_true_eq] at hc
      have E2 := E1.step s2
      have m2 := E1.mv s2
      have ea2 : H2 a = some (.dK vs) := by rw [E1.at_step s2 hoi]; exact ea
      have rk := rep_key hc.1 r2
      obtain ⟨kk, rfl⟩ := rk.key hc.1
      have ra2 := RepK.mv m2 ra
      have hz : vs.length < sizeLine := by rw [ra.len, size16]; exact hc.2
      have new : Mv H2 (upd H2 a (.dK (putK vs kk v))) → OwnRep (pgOf X tb) g.C (upd H2 a (.dK (putK vs kk v))) (.dic (putD k d kvs)) a := fun m =>
        ⟨_, upd_same, ⟨by have := putD_len (k := k) (v := d) (kvs := kvs); rw [size16]; omega, nodK_put la.2⟩, RepK.mv m (RepK.put rk (r1.mv m2) la.2 ra2)⟩
      refine ⟨a, _, rfl, .inl ⟨vs, kk, ea2, rfl, hz, rfl⟩, ?_⟩
      exact q σ _ (E2.write he hs (fun _ => by simp) new) (((s1.trans s2).s E).trans (E2.objStep (.inl ⟨⟨_, he⟩, hs⟩) trivial))
    · exact q.elim
  · exact q.elim

/-! ### dict(d): a copy -/
def copyD : List D → Option D
  | [.dic kvs] => some (.dic kvs)
  | _ => none
theorem call_copyD : CallR X (.type "dict") (fun xs H Q => ∃ a kvs, xs = [.ref a] ∧ Rd H a (.dK kvs) ∧ ∀ p, H p = none → Q (.ref p) (upd H p (.dK kvs))) := fun pins s σ H xs us Q I r ⟨a, kvs, ex, ha, q⟩ => by
  subst ex
  obtain ⟨u, rfl, ru⟩ := vals1 r
  cases ru
  exact d_copyOf I ha fun p s' hp I' => ⟨.ref p, _, I', rfl, q p hp⟩
theorem qo_copy {e : Expr} {p : Pos} {f : Env → T D} (hg : Gl X "dict") (hm : X.mg "dict" = none) (ha : QP X tb W e f) (hs : starEach [e] X.env = [(false, eval e X.env)] := by rfl) (hpl : (backTo pos (starEach [] X.env)).any (·.1) = false := by rfl) :
    QO X tb W (.Call (.Name "dict" p) [e] [] pos) (eCall copyD (aCons f aNil)) := by
  obtain ⟨t, p1, i1⟩ := (qap_cons ha qap_nil hs).ex
  refine ⟨_, pe_callTy call_copyD hg hm (by decide +kernel) p1 (by decide) (by decide) hs hpl, fun g σ env H Q E hw => ?_⟩
  unfold eCall at hw
  rw [T.wp_bind] at hw
  refine i1 g σ env H _ E (T.wp_mono (fun xs q vs H1 s1 r1 => ?_) (fun _ z => z) hw)
  have E1 := E.step s1
  unfold copyD at q
  split at q
  · rename_i kvs
    obtain ⟨v, rfl, r2⟩ := rep1 r1
    obtain ⟨a, ws, rfl, _, ea, la, ra⟩ := r2
    refine ⟨a, ws, rfl, ea, fun l hl => ?_⟩
    obtain ⟨n0, h0⟩ := E1.free0 hl
    exact q l _ (s1.trans (E1.alloc hl)) (E1.float hl) n0 h0 (s1.free hl) ⟨ws, upd_same, la, RepK.mv (E1.mvFloat hl) ra⟩
  · exact q.elim
end
/-! ### things within things -/
section
variable {p : Pg} {g g' : Gh} {σ : St} {env : Env} {H : Hp}
/-- what a slot's container holds, or the container, is written; what is new to it floated -/
theorem ER.wr2 (E : ER p g' σ env H) (eH : g'.H0 = g.H0) (eC : g'.C = g.C) (sub : ∀ a, g.N0 a → g'.N0 a) {i : Nat} {d d' : D} {a x : Addr} {bs bs' : List Addr} {o : HO} (h : env[i]? = some (.own2 d)) (hs : σ[i]? = some (some (.ref a)))
    (r0 : OwnRep2 p g.C H d a bs) (hx : x ∈ a :: bs) (mo : Md o) (nd : (a :: bs').Nodup) (hb : ∀ b ∈ bs', b ∈ bs ∨ (g'.N0 b ∧ ¬ g.N0 b ∧ ¬ Ob g.H0 b)) (r : Mv H (upd H x o) → OwnRep2 p g.C (upd H x o) d' a bs') :
    ER p g σ (env.set i (.own2 d')) (upd H x o) ∧ SStep H (upd H x o) := by
  have hi : i < env.length := (List.getElem?_eq_some_iff.mp h).1
  have hat : ∀ b ∈ a :: bs, OwnAt σ env H i b := fun b hb => by
    refine .inr ⟨⟨d, h⟩, a, hs, ?_⟩
    rcases List.mem_cons.mp hb with z | z
    · exact .inl z
    · exact .inr ((r0.inner b).mpr z)
  have hoi := hat x hx
  obtain ⟨u, hu, mu⟩ := E.objAt hoi
  have st := E.objStep hoi mo
  have mv := st.mv
  have rn := r mv
  have oth : ∀ b v, H b = some v → ¬ Md v → upd H x o b = some v := fun b v hv n => by
    rw [upd_ne]
    · exact hv
    · rintro rfl
      rw [hu] at hv; cases hv
      exact n mu
  have ne : ∀ j, j ≠ i → ∀ b, OwnAt σ env H j b → upd H x o b = H b := fun j hj b hb => upd_ne fun z => hj (E.uniq j i x (by rw [← z]; exact hb) hoi)
  have same : ∀ j, j ≠ i → ∀ b, OwnAt σ (env.set i (.own2 d')) (upd H x o) j b → OwnAt σ env H j b := fun j hj b z => (OwnAt.same E (ne j hj)).mp ((OwnAt.set_env hj).mp z)
  have own' : ∀ b, OwnAt σ (env.set i (.own2 d')) (upd H x o) i b → b ∈ a :: bs' := fun b z => by
    rcases z with ⟨⟨_, e⟩, _⟩ | ⟨_, c, e, q⟩
    · cases set_self_eq e
    · rw [hs] at e; cases e
      rcases q with q | q
      · rw [q]; exact List.mem_cons_self
      · exact List.mem_cons_of_mem _ ((rn.inner b).mp q)
  have old : ∀ b ∈ a :: bs', OwnAt σ env H i b ∨ (g'.N0 b ∧ ¬ g.N0 b ∧ ¬ Ob g.H0 b) := fun b hb' => by
    rcases List.mem_cons.mp hb' with z | z
    · exact .inl (hat b (by rw [z]; exact List.mem_cons_self))
    · rcases hb b z with w | w
      · exact .inl (hat b (List.mem_cons_of_mem _ w))
      · exact .inr w
  have fr : ∀ j b, OwnAt σ env H j b → ¬ g.N0 b ∧ ¬ Ob g.H0 b := fun j b z => by
    have q := E.fresh j b z
    exact ⟨fun w => q.1 (sub b w), by rw [← eH]; exact q.2⟩
  refine ⟨⟨by simpa using E.len, fun b v hv n t => ?_, fun b hb => st.dom b (E.dom b (by rw [eH]; exact hb)), fun b c => ?_, tabs_oth E.tabs oth, fun b z => st.dom b (E.n0 b (sub b z)), ?_, ?_, ?_, fun t ht => ?_⟩, st⟩
  · have z : b ≠ x := fun z => (fr i x hoi).2 ⟨v, by rw [← z]; exact hv, t⟩
    rw [upd_ne z]; exact E.keep b v (by rw [eH]; exact hv) (by rw [eC]; exact n) t
  · obtain ⟨y, w, e, q⟩ := E.cup b (by rw [eC]; exact c)
    refine ⟨y, w, ?_, q⟩
    rw [upd_ne (show b ≠ x from fun z => E.nc hoi (by rw [← z, eC]; exact c))]; exact e
  · intro j y hy
    by_cases hj : j = i
    · subst hj
      rw [List.getElem?_set_self hi] at hy
      cases hy
      exact ⟨a, bs', hs, nd, rn⟩
    · rw [List.getElem?_set_ne (Ne.symm hj)] at hy
      have q := (E.slot j y hy).mv mv hy (ne j hj)
      cases y with
      | no => trivial
      | frz d => rw [show SlOk p g' σ (upd H x o) j (.frz d) = SlOk p g σ (upd H x o) j (.frz d) by unfold SlOk; rw [eC]] at q; exact q
      | own d => rw [show SlOk p g' σ (upd H x o) j (.own d) = SlOk p g σ (upd H x o) j (.own d) by unfold SlOk; rw [eC]] at q; exact q
      | own2 d => rw [show SlOk p g' σ (upd H x o) j (.own2 d) = SlOk p g σ (upd H x o) j (.own2 d) by unfold SlOk; rw [eC]] at q; exact q
  · intro j k b h1 h2
    by_cases hj : j = i
    · by_cases hk : k = i
      · rw [hj, hk]
      · subst hj
        have z := same k hk b h2
        rcases old b (own' b h1) with w | w
        · exact E.uniq j k b w z
        · exact ((E.fresh k b z).1 w.1).elim
    · have z := same j hj b h1
      by_cases hk : k = i
      · subst hk
        rcases old b (own' b h2) with w | w
        · exact E.uniq j k b z w
        · exact ((E.fresh j b z).1 w.1).elim
      · exact E.uniq j k b z (same k hk b h2)
  · intro j b h1
    by_cases hj : j = i
    · subst hj
      rcases old b (own' b h1) with w | w
      · exact fr j b w
      · exact ⟨w.2.1, w.2.2⟩
    · exact fr j b (same j hj b h1)
  · obtain ⟨e1, e2⟩ := E.th t ht
    exact ⟨by rw [← eC]; exact e1, by rw [← eH]; exact e2⟩
/-- an empty container of one's own holds nothing -/
theorem ER.to2 (E : ER p g σ env H) {i : Nat} {d : D} (hd : d = .dic [] ∨ d = .lst []) (h : env[i]? = some (.own d)) : ER p g σ (env.set i (.own2 d)) H := by
  have hi : i < env.length := (List.getElem?_eq_some_iff.mp h).1
  obtain ⟨a, hs, r⟩ := E.slot i _ h
  have r2 : OwnRep2 p g.C H d a [] := by
    rcases hd with rfl | rfl
    · obtain ⟨kws, e, l, q⟩ := r
      simp only [RepK] at q
      subst q
      exact ⟨[], e, l, rfl, rfl⟩
    · obtain ⟨vs, e, l, q⟩ := r
      simp only [RepL] at q
      subst q
      exact ⟨[], e, l, rfl, rfl⟩
  have at_i : ∀ b, OwnAt σ (env.set i (.own2 d)) H i b → OwnAt σ env H i b := fun b z => by
    rcases z with ⟨⟨_, e⟩, _⟩ | ⟨_, c, e, q⟩
    · cases set_self_eq e
    · rw [hs] at e; cases e
      rcases q with q | q
      · rw [q]; exact .inl ⟨⟨d, h⟩, hs⟩
      · have := (r2.inner b).mp q
        simp at this
  have at_ : ∀ j b, OwnAt σ (env.set i (.own2 d)) H j b → OwnAt σ env H j b := fun j b z => by
    by_cases hj : j = i
    · subst hj; exact at_i b z
    · exact (OwnAt.set_env hj).mp z
  refine ⟨by simpa using E.len, E.keep, E.dom, E.cup, E.tabs, E.n0, fun j y hy => ?_, fun j k b h1 h2 => E.uniq j k b (at_ j b h1) (at_ k b h2), fun j b h1 => E.fresh j b (at_ j b h1), E.th⟩
  by_cases hj : j = i
  · subst hj
    rw [List.getElem?_set_self hi] at hy
    cases hy
    exact ⟨a, [], hs, by simp, r2⟩
  · rw [List.getElem?_set_ne (Ne.symm hj)] at hy
    exact E.slot j y hy
theorem putD_has {k d : D} : ∀ {kvs : List (D × D)}, hasK k kvs = true → (putD k d kvs).length = kvs.length
  | [], h => by cases h
  | (j, x) :: r, h => by
    simp only [hasK, Bool.or_eq_true] at h
    simp only [putD]
    cases e : keyB j k with
    | true => simp
    | false =>
      rw [e] at h
      have := putD_has (d := d) (h.resolve_left (by simp))
      simp [this]
theorem OwnK.len {C : Addr → Prop} : ∀ {kvs : List (D × D)} {kws : List (Key × V)} {bs : List Addr}, OwnK p C H kvs kws bs → kws.length = kvs.length
  | [], _, _, h => by obtain ⟨rfl, rfl⟩ := h; rfl
  | (j, d) :: r, _, _, h => by
    obtain ⟨kk, b, ws, cs, rfl, rfl, _, _, q⟩ := h
    simp [OwnK.len q]
theorem OwnK.find {k : D} {kk : Key} {C C' : Addr → Prop} {H' : Hp} (rk : Rep p C' H' k (kV kk)) : ∀ {kvs : List (D × D)} {kws : List (Key × V)} {bs : List Addr}, OwnK p C H kvs kws bs →
    (findK k kvs = none ∧ valV kws kk = none) ∨ ∃ d b, findK k kvs = some d ∧ valV kws kk = some (.ref b) ∧ b ∈ bs ∧ OwnRep p C H d b
  | [], _, _, h => by obtain ⟨rfl, rfl⟩ := h; exact .inl ⟨rfl, valV_nil⟩
  | (j, d) :: r, _, _, h => by
    obtain ⟨jj, b, ws, cs, rfl, rfl, r1, r2, q⟩ := h
    have hb := keyB_iff r1 rk
    by_cases e : jj = kk
    · rw [decide_eq_true e] at hb
      exact .inr ⟨d, b, by simp only [findK, hb, if_true], valV_pos (p := (jj, V.ref b)) e, List.mem_cons_self, r2⟩
    · rw [decide_eq_false e] at hb
      rw [valV_neg (p := (jj, V.ref b)) e]
      simp only [findK, hb, Bool.false_eq_true, if_false]
      rcases OwnK.find rk q with z | ⟨d', b', z1, z2, z3, z4⟩
      · exact .inl z
      · exact .inr ⟨d', b', z1, z2, List.mem_cons_of_mem _ z3, z4⟩
/-- what stands at a key changes in its place -/
theorem OwnK.edit {k d' : D} {kk : Key} {C C' : Addr → Prop} {H' H2 : Hp} (rk : Rep p C' H2 k (kV kk)) (m : Mv H H') {c : Addr} (hc : ∀ b, b ≠ c → ∀ u, H b = some u → (∀ ps, u ≠ .tbl ps) → H' b = some u) (rd : OwnRep p C H' d' c) : ∀ {kvs : List (D × D)} {kws : List (Key × V)} {bs : List Addr},
    bs.Nodup → valV kws kk = some (.ref c) → OwnK p C H kvs kws bs → OwnK p C H' (putD k d' kvs) kws bs
  | [], _, _, _, hv, h => by obtain ⟨rfl, rfl⟩ := h; cases hv
  | (j, d) :: r, _, _, nd, hv, h => by
    obtain ⟨jj, b, ws, cs, rfl, rfl, r1, r2, q⟩ := h
    have hb := keyB_iff r1 rk
    have nd' := List.nodup_cons.mp nd
    by_cases e : jj = kk
    · rw [decide_eq_true e] at hb
      rw [valV_pos (p := (jj, V.ref b)) e] at hv
      cases hv
      simp only [putD, hb, if_true]
      refine ⟨jj, _, ws, cs, rfl, rfl, r1.mv m, rd, q.mv m fun x hx u hu ht => hc x (fun z => nd'.1 (by rw [← z]; exact hx)) u hu ht⟩
    · rw [decide_eq_false e] at hb
      rw [valV_neg (p := (jj, V.ref b)) e] at hv
      simp only [putD, hb, Bool.false_eq_true, if_false]
      have hbc : b ≠ c := fun z => by
        rcases OwnK.find (k := k) (kk := kk) rk q with ⟨_, w⟩ | ⟨_, b', _, w, hb', _⟩
        · rw [w] at hv; cases hv
        · rw [w] at hv; cases hv
          exact nd'.1 (by rw [z]; exact hb')
      exact ⟨jj, b, ws, cs, rfl, rfl, r1.mv m, r2.mv m (hc b hbc), OwnK.edit rk m hc rd nd'.2 hv q⟩
/-- a thing of one's own put at a key -/
theorem OwnK.put {k d : D} {kk : Key} {C : Addr → Prop} {c : Addr} (rk : Rep p C H k (kV kk)) (rd : OwnRep p C H d c) : ∀ {kvs : List (D × D)} {kws : List (Key × V)} {bs : List Addr}, nodK kvs = true → bs.Nodup → c ∉ bs → OwnK p C H kvs kws bs →
    ∃ bs', OwnK p C H (putD k d kvs) (putK kws kk (.ref c)) bs' ∧ bs'.Nodup ∧ ∀ b ∈ bs', b ∈ bs ∨ b = c
  | [], _, _, _, _, _, h => by
    obtain ⟨rfl, rfl⟩ := h
    exact ⟨[c], ⟨kk, c, [], [], rfl, rfl, rk, rd, rfl, rfl⟩, by simp, fun b hb => .inr (by simpa using hb)⟩
  | (j, d0) :: r, _, _, n, nd, nc, h => by
    obtain ⟨jj, b, ws, cs, rfl, rfl, r1, r2, q⟩ := h
    simp only [nodK, Bool.and_eq_true, Bool.not_eq_true'] at n
    have hb := keyB_iff r1 rk
    have nd' := List.nodup_cons.mp nd
    by_cases e : jj = kk
    · rw [decide_eq_true e] at hb
      subst e
      have hn : valV ws jj = none := by
        rcases OwnK.find r1 q with ⟨_, z⟩ | ⟨_, _, z, _⟩
        · exact z
        · rw [hasK_eq, z] at n; cases n.1
      refine ⟨c :: cs, ?_, List.nodup_cons.mpr ⟨fun z => nc (List.mem_cons_of_mem _ z), nd'.2⟩, fun x hx => ?_⟩
      · simp only [putD, hb, if_true]
        refine ⟨jj, c, ws, cs, ?_, rfl, r1, rd, q⟩
        unfold putK
        simp only [List.any_cons, decide_true, Bool.true_or, if_true, List.map_cons]
        congr 1
        refine (List.map_congr_left fun q hq => ?_).trans (List.map_id _)
        rw [if_neg (valV_keys hn q hq)]
        rfl
      · rcases List.mem_cons.mp hx with z | z
        · exact .inr z
        · exact .inl (List.mem_cons_of_mem _ z)
    · rw [decide_eq_false e] at hb
      obtain ⟨bs', h1, h2, h3⟩ := OwnK.put rk rd n.2 nd'.2 (fun z => nc (List.mem_cons_of_mem _ z)) q
      refine ⟨b :: bs', ?_, List.nodup_cons.mpr ⟨fun z => ?_, h2⟩, fun x hx => ?_⟩
      · simp only [putD, hb, Bool.false_eq_true, if_false]
        exact ⟨jj, b, _, bs', putK_cons jj kk _ _ ws e, rfl, r1, r2, h1⟩
      · rcases h3 b z with w | w
        · exact nd'.1 w
        · exact nc (by rw [← w]; exact List.mem_cons_self)
      · rcases List.mem_cons.mp hx with z | z
        · exact .inl (by rw [z]; exact List.mem_cons_self)
        · rcases h3 x z with w | w
          · exact .inl (List.mem_cons_of_mem _ w)
          · exact .inr w
end
section
variable {X : Cx} {tb : Tb} {W : WX} {pos : Pos}
/-- x[k] = a new thing, that the dict x owns from then on -/
def as2 : Option Sl → Option (List (D × D))
  | some (.own (.dic [])) => some []
  | some (.own2 (.dic kvs)) => some kvs
  | _ => none
def sPut2 (i : Nat) (fk fo : Env → T D) : Env → T Fl := fun env => (fo env).bind fun d => match as2 env[i]? with
  | some kvs => (fk env).bind fun k => if isK k && decide (kvs.length < 16777216) then .ret (.nx (env.set i (.own2 (.dic (putD k d kvs))))) else .bad
  | _ => .bad
theorem ER.as2 {p : Pg} {g : Gh} {σ : St} {env : Env} {H : Hp} (E : ER p g σ env H) {i : Nat} {kvs : List (D × D)} (h : MM.as2 env[i]? = some kvs) : ER p g σ (env.set i (.own2 (.dic kvs))) H ∧ (env.set i (.own2 (.dic kvs)))[i]? = some (.own2 (.dic kvs)) := by
  unfold MM.as2 at h
  split at h
  · rename_i he
    cases h
    have hi : i < env.length := (List.getElem?_eq_some_iff.mp he).1
    exact ⟨E.to2 (.inl rfl) he, List.getElem?_set_self hi⟩
  · rename_i kvs he
    cases h
    have hi : i < env.length := (List.getElem?_eq_some_iff.mp he).1
    have : env.set i (.own2 (.dic kvs)) = env := by
      apply List.ext_getElem?
      intro j
      by_cases hj : j = i
      · subst hj; rw [List.getElem?_set_self hi, he]
      · rw [List.getElem?_set_ne (Ne.symm hj)]
    rw [this]
    exact ⟨E, he⟩
  · cases h
theorem qs_put2 (i : Nat) {x : Str} {ek ev : Expr} {fk fo : Env → T D} {p1 p2 : Pos} (hu : X.A.units + 65 < cLine) (hk : QP X tb W ek fk) (hv : QO X tb W ev fo) (hN : X.N[i]? = some x := by rfl) (hvis : Vis X.env.scope x := by first | exact Or.inl rfl | exact Or.inr (Or.inl rfl) | exact Or.inr (Or.inr rfl))
    (hd : (x == ("__debug__" : Str)) = false := by decide) (hcd : (x == ("__classdict__" : Str)) = false := by decide) (hs : swapsWith ev (some (.Subscript (.Name x p1) ek p2)) pos.line X.env = pure false := by rfl) :
    QS X tb W (.Assign [.Subscript (.Name x p1) ek p2] ev pos) (sPut2 i fk fo) := by
  obtain ⟨t1, p1', i1⟩ := hk.ex
  obtain ⟨t2, p2', i2⟩ := hv.ex
  refine ⟨_, ps_dput (by omega) (pe_var (i := i) hN hvis hd hcd) p1' p2' hs, fun g σ env H Dn E hw => ?_⟩
  unfold sPut2 at hw
  rw [T.wp_bind] at hw
  refine i2 g σ env H _ E (T.wp_mono (fun d q c H1 s1 Ef n0 h0 hf rd => ?_) (fun x q => xps E x q) hw)
  split at q
  · rename_i kvs he
    rw [T.wp_bind] at q
    obtain ⟨E1, he1⟩ := Ef.as2 he
    obtain ⟨a, bs, hs, nd, r0⟩ := E1.slot i _ he1
    refine ⟨.ref a, hs, i1 (g.fl c) σ env H1 _ Ef (T.wp_mono (fun k q vk H2 s2 r2 => ?_) (fun x q cls dx H' s r => q cls dx σ env H' (Ef.step s).sink ((s1.trans s).s E) r) q)⟩
    split at q
    · rename_i hc
      simp only [Bool.and_eq_true, decide_eq_true_eq] at hc
      have s2' : Step (pgOf X tb) g.C H1 H2 := s2
      have E2 := E1.step s2
      have m2 := Ef.mv s2
      obtain ⟨a', bs', hs', nd', r0'⟩ := E2.slot i _ he1
      rw [hs] at hs'; cases hs'
      have rk := rep_key hc.1 r2
      obtain ⟨kk, rfl⟩ := rk.key hc.1
      obtain ⟨kws, ea, la, ra⟩ := r0'
      have hat : ∀ b ∈ a :: bs', OwnAt σ (env.set i (.own2 (.dic kvs))) H2 i b := fun b hb => by
        refine .inr ⟨⟨_, he1⟩, a, hs, ?_⟩
        rcases List.mem_cons.mp hb with z | z
        · exact .inl z
        · exact .inr (.inr (.inl ((ra.inner b).mpr z |>.elim fun k hk => ⟨kws, k, ea, hk⟩)))
      have hcn : c ∉ a :: bs' := fun z => (E2.fresh i c (hat c z)).1 (.inr rfl)
      simp only [List.mem_cons, not_or] at hcn
      have nd2 := List.nodup_cons.mp nd'
      obtain ⟨u, hcu, hcm⟩ := rd.obj
      have rd2 : OwnRep (pgOf X tb) g.C H2 d c := rd.mv m2 fun o ho ht => s2'.grow c o ho (fun z => n0 (g.hC c z)) ht
      have hz : kws.length < sizeLine := by rw [ra.len, size16]; exact hc.2
      obtain ⟨bs2, q1, q2, q3⟩ := OwnK.put rk rd2 la.2 nd2.2 hcn.2 ra
      have anb : a ∉ bs2 := fun z => by
        rcases q3 a z with w | w
        · exact nd2.1 w
        · exact hcn.1 w.symm
      obtain ⟨E3, S3⟩ := ER.wr2 (g := g) (g' := g.fl c) (x := a) (o := .dK (putK kws kk (.ref c))) (d' := .dic (putD k d kvs)) (bs := bs') (bs' := bs2) E2 rfl rfl (fun _ z => .inl z) he1 hs ⟨kws, ea, la, ra⟩ List.mem_cons_self trivial (List.nodup_cons.mpr ⟨anb, q2⟩)
        (fun b hb => (q3 b hb).imp id fun w => by rw [w]; exact ⟨.inr rfl, n0, h0⟩)
        (fun m => ⟨_, upd_same, ⟨by have := putD_len (k := k) (v := d) (kvs := kvs); rw [size16]; omega, nodK_put la.2⟩, q1.mv m fun b hb o ho _ => by rw [upd_ne (fun z => anb (by rw [← z]; exact hb))]; exact ho⟩)
      refine ⟨a, _, rfl, .inl ⟨kws, kk, ea, rfl, hz, rfl⟩, ?_⟩
      rw [List.set_set] at E3
      exact q σ _ E3 (((s1.trans s2').s E).trans S3)
    · exact q.elim
  · exact q.elim
/-- x[k].append(v), the dict x owns its lists -/
def sApp2 (i : Nat) (fk f : Env → T D) : Env → T Fl := fun env => match env[i]? with
  | some (.own2 (.dic kvs)) => (fk env).bind fun k => if isK k then (match findK k kvs with
    | some (.lst xs) => (f env).bind fun d => if xs.length < 16777216 then .ret (.nx (env.set i (.own2 (.dic (putD k (.lst (xs ++ [d])) kvs))))) else .bad
    | _ => .bad) else .bad
  | _ => .bad
theorem findK_has {k d : D} : ∀ {kvs : List (D × D)}, findK k kvs = some d → hasK k kvs = true := fun {kvs} h => by rw [hasK_eq, h]; rfl
theorem qs_app2 (i : Nat) {x : Str} {ek e : Expr} {fk f : Env → T D} {apos cpos npos spos : Pos} (hu : X.A.units + 65 < cLine) (hk : QP X tb W ek fk) (ha : QE X tb W e f) (hN : X.N[i]? = some x := by rfl) (hv : Vis X.env.scope x := by first | exact Or.inl rfl | exact Or.inr (Or.inl rfl) | exact Or.inr (Or.inr rfl)) (hd : (x == ("__debug__" : Str)) = false := by decide)
    (hcd : (x == ("__classdict__" : Str)) = false := by decide) (hpl : PlainIx ek := by exact fun _ _ => rfl) (hbase : attributeBase (.Subscript (.Name x npos) ek spos) "append" X.env (eval (.Subscript (.Name x npos) ek spos) X.env) = eval (.Subscript (.Name x npos) ek spos) X.env := by rfl)
    (hfew : ((backTo cpos (starEach [e] X.env)).all (fun x => !x.1) && (backToKw cpos (keywordEach [] X.env)).all (fun x => x.1.isSome)
      && decide (([e] : List Expr).length + ([] : List Keyword).length + (if ([] : List Keyword).isEmpty then 0 else 1) < 30)) = true := by rfl)
    (hline : (apos.endLine == cpos.line) = true := by rfl) (hs : starEach [e] X.env = [(false, eval e X.env)] := by rfl) (hplain : (backTo cpos (starEach [] X.env)).any (·.1) = false := by rfl)
    (hsw : swapsWith (.Call (.Attribute (.Subscript (.Name x npos) ek spos) "append" apos) [e] [] cpos) none pos.line X.env = pure false := by rfl) :
    QS X tb W (.Expr (.Call (.Attribute (.Subscript (.Name x npos) ek spos) "append" apos) [e] [] cpos) pos) (sApp2 i fk f) := by
  obtain ⟨t, p1, i1⟩ := (qa_cons ha qa_nil hs).ex
  obtain ⟨tk, pk, ik⟩ := hk.ex
  refine ⟨_, ps_expr (pe_bm PySem.F.plainAttrs_list PySem.F.slot_list_append PySem.F.type_list_append mt_append (pe_ix (ix_dic hu) (pe_var (i := i) hN hv hd hcd) pk hpl) p1 hbase hfew hline hs hplain) hsw, fun g σ env H Dn E hw => ?_⟩
  unfold sApp2 at hw
  split at hw
  rotate_left
  · exact hw.elim
  rename_i kvs he
  rw [T.wp_bind] at hw
  obtain ⟨a, bs, hsl, nd, kws, ea, la, ra⟩ := E.slot i _ he
  refine ⟨.ref a, hsl, ik g σ env H _ E (T.wp_mono (fun k q vk H1 s1 r1 => ?_) (fun x q cls dx H' s r => q cls dx σ env H' (E.step s) (s.s E) r) hw)⟩
  split at q
  rotate_left
  · exact q.elim
  rename_i hk
  split at q
  rotate_left
  · exact q.elim
  rename_i xs hfd
  have E1 := E.step s1
  obtain ⟨a', bs1, hs1, nd1, kws1, ea1, la1, ra1⟩ := E1.slot i _ he
  rw [hsl] at hs1; cases hs1
  have rk := rep_key hk r1
  obtain ⟨kk, rfl⟩ := rk.key hk
  rcases OwnK.find rk ra1 with ⟨z, _⟩ | ⟨d0, b, z1, z2, hb, rb⟩
  · rw [hfd] at z; cases z
  rw [hfd] at z1; cases z1
  obtain ⟨vs, eb, lb, rl⟩ := rb
  refine ⟨a, .ref b, rfl, .inl ⟨kws1, kk, .inl ea1, rfl, z2.symm⟩, .inl ⟨rfl, _, .inl (.inl eb)⟩, ?_⟩
  rw [T.wp_bind] at q
  refine i1 g σ env H1 _ E1 ?_
  unfold aCons
  rw [T.wp_bind]
  refine T.wp_mono (fun d q => ?_) (fun x q cls dx H' s r => q cls dx σ env H' (E.step (s1.trans s)) ((s1.trans s).s E) r) q
  intro us H2 s2 r2
  have E2 := E1.step s2
  obtain ⟨u, us', rfl, ru, rn⟩ := (show ∃ v ws, us = v :: ws ∧ Rep (pgOf X tb) g.C H2 d v ∧ RepL (pgOf X tb) g.C H2 [] ws by simpa only [RepL] using r2)
  have rn : us' = [] := by simpa only [RepL] using rn
  subst rn
  split at q
  · rename_i hl
    have m2 := E1.mv s2
    have hat : ∀ c ∈ a :: bs1, OwnAt σ env H1 i c := fun c hc => by
      refine .inr ⟨⟨_, he⟩, a, hsl, ?_⟩
      rcases List.mem_cons.mp hc with z | z
      · exact .inl z
      · exact .inr (.inr (.inl ((ra1.inner c).mpr z |>.elim fun k hk => ⟨kws1, k, ea1, hk⟩)))
    have keep2 : ∀ c ∈ a :: bs1, H2 c = H1 c := fun c hc => E1.at_step s2 (hat c hc)
    have eb2 : H2 b = some (.lst vs) := by rw [keep2 b (List.mem_cons_of_mem _ hb)]; exact eb
    have ea2 : H2 a = some (.dK kws1) := by rw [keep2 a List.mem_cons_self]; exact ea1
    have ra2 := ra1.mv m2 fun c hc o ho _ => by rw [keep2 c (List.mem_cons_of_mem _ hc)]; exact ho
    have hz : vs.length < sizeLine := by rw [rl.length, size16]; exact hl
    have nd2 := List.nodup_cons.mp nd1
    have hba : b ≠ a := fun z => nd2.1 (by rw [← z]; exact hb)
    have rk2 := rk.mv m2
    obtain ⟨E3, S3⟩ := ER.wr2 (g := g) (g' := g) (x := b) (o := .lst (vs ++ [u])) (d' := .dic (putD k (.lst (xs ++ [d])) kvs)) (bs := bs1) (bs' := bs1) E2 rfl rfl (fun _ z => z) he hsl ⟨kws1, ea2, la1, ra2⟩ (List.mem_cons_of_mem _ hb) trivial nd1
      (fun c hc => .inl hc) (fun m => ⟨kws1, by rw [upd_ne hba.symm]; exact ea2, ⟨by rw [putD_has (findK_has hfd)]; exact la1.1, nodK_put la1.2⟩,
        OwnK.edit rk2 m (fun c hc w hw _ => by rw [upd_ne hc]; exact hw) (show OwnRep (pgOf X tb) g.C (upd H2 b (.lst (vs ++ [u]))) (.lst (xs ++ [d])) b from ⟨_, upd_same, by rw [List.length_append, size16]; simp; omega, ((rl.mv m2).app (.one ru)).mv m⟩) nd2.2 z2 ra2⟩)
    refine ⟨b, vs, u, rfl, rfl, eb2, hz, ?_⟩
    exact q σ _ E3 (((s1.trans s2).s E).trans S3)
  · exact q.elim
end
end MM

namespace MM
open PySem PySem.Spec L2

/-! ### what sorted gathers -/
section
variable {prog : Program} {w : World} {A : Around} {E : Value → Shared → Prop} {s : Shared}
theorem gather {l : Addr} {T : String} {o : Obj} {xs : Array Value} {n : Nat} {Q : List Value → Shared → Prop} (hT : T = "list" ∨ T = "tuple") (ho : s.heap.get? l = some o) (hc : o.cls = .type T) (hd : o.data = .seq xs n) (hz : xs.size ≤ sizeLine)
    (q : ∀ h', (∀ b u, s.heap.get? b = some u → h'.get? b = some u) → Q xs.toList { s with heap := h' }) : wpAny (model prog w) A (collect (.ref l)) Q E s := by
  unfold collect
  refine wpAny_bind (wpAny_runValue (codeAny_builtin PyProof.Rows.entry_proto_collect' ?_))
  show wpAny _ _ (newList [] >>= fun c => again (.builtin "list.__iadd__" ⟨[c, .ref l], []⟩)) _ _ s
  refine wpAny_bind (wpAny_newList (wpAny_pure ⟨Code.quiet_builtin _ (by decide +kernel), codeAny_builtin PyProof.Rows.entry_list_iadd' ?_⟩))
  have e0 : (s.heap.push (PyProof.Rows.seqObj "list" #[] 0)).get? s.heap.objs.size = some { cls := .type "list", data := .seq #[] 0 } := Heap.get?_push_size _ rfl
  have kp : ∀ b u, s.heap.get? b = some u → ((s.heap.push (PyProof.Rows.seqObj "list" #[] 0)).update s.heap.objs.size (Obj.mapSeq (· ++ xs))).get? b = some u := fun b u e => by
    rw [Heap.get?_update_ne _ _ _ _ (Nat.ne_of_lt (Heap.lt_size e))]
    exact Heap.get?_push_of_some _ e
  have pl : plainId "list.__iadd__" = true := by decide +kernel
  rw [Around.under_plainId pl _]
  show wpAny _ _ (Builtin.List.listExtendWith (.ref s.heap.objs.size) (.ref l) (.ref s.heap.objs.size)) _ _ _
  refine wpAny_extend_seq (hsz := hz) (R := fun r s' => match r with
    | .ok (.ret v) => wpAny (model prog w) A (match v with
      | .ref a => load a >>= fun b => (match b.data with
        | .seq ys _ => pure ys.toList
        | _ => unsupported "internal:collect")
      | _ => unsupported "internal:collect") Q E s'
    | .ok _ => False
    | .error e => E e s') _ l _ _ hT e0 (Heap.get?_push_of_some _ ho) hc hd ?_
  refine wpAny_bind (PySem.wpAny_load (Heap.get?_update_self (Obj.mapSeq (· ++ xs)) e0 rfl) ?_)
  show wpAny _ _ (pure ((#[] : Array Value) ++ xs).toList) Q E _
  rw [Array.empty_append]
  exact wpAny_pure (q _ kp)
open PySem.W in
theorem sorted_core {β : Type} {l : Addr} {bs : List β} {R : Value → β → Prop} {enc : β → PyData} {Q : Value → Shared → Prop}
    (coll : ∀ (Q' : List Value → Shared → Prop) (E' : Value → Shared → Prop), (∀ its h' tk, EachIs R its bs → EachIs (fun v b => ∃ as, Reads s.heap v (enc b) as) its bs → (∀ b u, s.heap.get? b = some u → h'.get? b = some u) → Q' its { s with heap := h', toks := tk }) → wpAny (model prog w) A.in1 (collect (.ref l)) Q' E' s)
    (hal : AllAlike (bs.map enc)) (hk : PySem.W.Sortable (bs.map enc)) (hL : bs.length ≤ sizeLine) (hu : ∀ b, b ∈ bs → A.units + 2 + (enc b).depth < cLine)
    (h : ∀ (out : List Value) (h1 h' : Heap) tk c, (∀ b u, s.heap.get? b = some u → h1.get? b = some u) → (∀ b u, h1.get? b = some u → h'.get? b = some u) → h'.get? h1.objs.size = some (PyProof.Rows.seqObj "list" out.toArray c) → EachIs R out (bs.mergeSort (dataLe false enc)) → Q (.ref h1.objs.size) { s with heap := h', toks := tk }) :
    wpAny (model prog w) A (call (.builtin "sorted") [.ref l]) Q E s := by
  refine Calls.call_function_entry PyProof.Rows.kind_sorted PyProof.Rows.plain_sorted PyProof.Rows.entry_sorted (PyProof.Rows.args_sorted1 _) ?_
  unfold Builtin.«sorted»
  refine wpAny_bind (m := checkCount "sorted" 1 1 _) (wpAny_pure (wpAny_bind (coll _ _ fun its h1 tk e er kp => ?_)))
  have hz : its.length ≤ sizeLine := by rw [e.length]; exact hL
  refine wpAny_bind (wpAny_newList ?_ hz)
  have hn : (h1.push (PyProof.Rows.seqObj "list" its.toArray 0)).get? h1.objs.size = some (PyProof.Rows.seqObj "list" its.toArray 0) := Heap.get?_push_size _ rfl
  have k1 : ∀ b u, h1.get? b = some u → (h1.push (PyProof.Rows.seqObj "list" its.toArray 0)).get? b = some u := fun b u q => Heap.get?_push_of_some _ q
  have ne : ∀ b u, h1.get? b = some u → b ≠ h1.objs.size := fun b u q => Nat.ne_of_lt (Heap.lt_size q)
  have er' : EachIs (fun v b => ∃ as, Reads (sortingHeap (h1.push (PyProof.Rows.seqObj "list" its.toArray 0)) h1.objs.size its) v (enc b) as) its bs :=
    er.mono fun _ _ ⟨as, r⟩ => ⟨as, PyProof.Rows.Reads.keeps (fun b u q => sortingHeap_old (ne b u (kp b u q)) (k1 b u (kp b u q))) r⟩
  show wpAny _ _ (holding [Value.ref h1.objs.size] (call (.builtin "list.sort") [.ref h1.objs.size]) >>= fun _ => ret (.ref h1.objs.size)) _ _ { s with heap := h1.push (PyProof.Rows.seqObj "list" its.toArray 0), toks := tk }
  refine wpAny_bind (wpAny_holding (wpAny_call_entry PyProof.Rows.slot_list_sort ⟨_, hn, rfl⟩ PyProof.Rows.entry_list_sort (list_sort_vals (s := { s with heap := h1.push (PyProof.Rows.seqObj "list" its.toArray 0), toks := tk }) (κ := dataKind (sortingHeap (h1.push (PyProof.Rows.seqObj "list" its.toArray 0)) h1.objs.size its) (bs.map enc)) hn
    (SortsAt.data (s := { s with heap := sortingHeap (h1.push (PyProof.Rows.seqObj "list" its.toArray 0)) h1.objs.size its, toks := tk }) (each_map (R := fun v d => ∃ as, Reads (sortingHeap (h1.push (PyProof.Rows.seqObj "list" its.toArray 0)) h1.objs.size its) v d as) enc er') hal hk (bound_map hu)) hz ⟨.none, rfl, ?_⟩) (PyProof.Rows.args_list_sort _)))
  refine wpAny_pure ⟨_, rfl, ?_⟩
  obtain ⟨c, hc⟩ := PyProof.Rows.sortedHeap_at (out := (sortVals (dataKind (sortingHeap (h1.push (PyProof.Rows.seqObj "list" its.toArray 0)) h1.objs.size its) (bs.map enc)) false its its).toArray) hn
  refine h _ h1 _ _ c kp (fun b u q => ?_) hc (sortVals_data false e er' hal)
  rw [PyProof.Rows.sortedHeap_old (ne b u q) (Heap.lt_size (k1 b u q))]
  exact k1 b u q
end

/-! ### sorting data, reckoned -/
def ltN : List Nat → List Nat → Bool
  | _, [] => false
  | [], _ :: _ => true
  | a :: as, b :: bs => Nat.blt a b || (Nat.beq a b && ltN as bs)
def ltI1 : Int ⊕ List Nat → Int ⊕ List Nat → Bool
  | .inl a, .inl b => decide (a < b)
  | .inl _, .inr _ => true
  | .inr _, .inl _ => false
  | .inr a, .inr b => ltN a b
def ltT : List (Int ⊕ List Nat) → List (Int ⊕ List Nat) → Bool
  | _, [] => false
  | [], _ :: _ => true
  | a :: as, b :: bs => ltI1 a b || (!ltI1 b a && ltT as bs)
mutual
def tokD : D → List (Int ⊕ List Nat)
  | .bl b => [.inl (if b then 1 else 0)]
  | .int n => [.inl n]
  | .str x => [.inr x]
  | .lst xs => tokL xs
  | .tup xs => tokL xs
  | _ => []
def tokL : List D → List (Int ⊕ List Nat)
  | [] => [.inl 0]
  | x :: xs => .inl 1 :: (tokD x ++ tokL xs)
end
mutual
theorem tokD_eq : ∀ d : D, tokD d = PySem.W.keyToks d.toPy
  | .non => rfl
  | .bl b => rfl
  | .int n => rfl
  | .str x => by simp [tokD, D.toPy, PySem.W.keyToks, sl]
  | .lst xs => by simp only [tokD, D.toPy, PySem.W.keyToks, tokL_eq xs]
  | .tup xs => by simp only [tokD, D.toPy, PySem.W.keyToks, tokL_eq xs]
  | .dic _ => rfl
  | .dit _ => rfl
  | .cup => rfl
  | .fn _ => rfl
  | .ty _ => rfl
theorem tokL_eq : ∀ ds : List D, tokL ds = PySem.W.keyToksAll (toPyL ds)
  | [] => rfl
  | d :: ds => by simp only [tokL, toPyL, PySem.W.keyToksAll, tokD_eq d, tokL_eq ds]
end
theorem ltN_eq : ∀ {a b : List Nat}, ltN a b = decide (a < b)
  | [], [] => by simp [ltN]
  | _ :: _, [] => by simp [ltN]
  | [], b :: bs => by simp [ltN]
  | a :: as, b :: bs => by
    have h1 : Nat.blt a b = decide (a < b) := by
      by_cases h : a < b
      · simp [h, Nat.blt_eq.mpr h]
      · rw [decide_eq_false h]
        cases q : Nat.blt a b with
        | false => rfl
        | true => exact absurd (Nat.blt_eq.mp q) h
    have h2 : Nat.beq a b = decide (a = b) := by
      by_cases e : a = b
      · subst e; simp [Nat.beq_refl]
      · rw [decide_eq_false e]
        cases q : Nat.beq a b with
        | false => rfl
        | true => exact absurd (Nat.eq_of_beq_eq_true q) e
    simp only [ltN, h1, h2, ltN_eq]
    have : (a :: as < b :: bs) ↔ a < b ∨ (a = b ∧ as < bs) := List.cons_lt_cons_iff
    rw [← Bool.decide_and, ← Bool.decide_or]
    exact decide_eq_decide.mpr this.symm
theorem ltI1_eq : ∀ {a b : Int ⊕ List Nat}, ltI1 a b = PyProof.Rows.itemLt a b
  | .inl _, .inl _ => rfl
  | .inl _, .inr _ => rfl
  | .inr _, .inl _ => rfl
  | .inr a, .inr b => ltN_eq
theorem ltT_eq : ∀ {a b : List (Int ⊕ List Nat)}, ltT a b = PyProof.Rows.lexLt PyProof.Rows.itemOrd a b
  | [], [] => rfl
  | _ :: _, [] => rfl
  | [], _ :: _ => rfl
  | a :: as, b :: bs => by
    simp only [ltT, PyProof.Rows.lexLt, ltI1_eq, ltT_eq (a := as)]
def leD (x y : D) : Bool := !ltT (tokD y) (tokD x)
theorem leD_eq : leD = PySem.W.dataLe false D.toPy := by
  funext x y
  unfold leD PySem.W.dataLe PySem.W.sortLe
  rw [ltT_eq, tokD_eq, tokD_eq]
  rfl
/-! a stable sort by insertion -/
def insL {α : Type} (le : α → α → Bool) (x : α) : List α → List α
  | [] => [x]
  | y :: ys => if le x y then x :: y :: ys else y :: insL le x ys
def sortL {α : Type} (le : α → α → Bool) : List α → List α
  | [] => []
  | x :: xs => insL le x (sortL le xs)
section
variable {α : Type} {le : α → α → Bool}
theorem insL_mem {x z : α} : ∀ {l : List α}, z ∈ insL le x l ↔ z = x ∨ z ∈ l
  | [] => by simp [insL]
  | y :: ys => by
    simp only [insL]
    split
    · simp
    · simp only [List.mem_cons, insL_mem (l := ys)]
      constructor
      · rintro (h | h | h) <;> simp [h]
      · rintro (h | h | h) <;> simp [h]
theorem insL_pair (h : PySem.W.TotalLe le) {x : α} : ∀ {l : List α}, l.Pairwise (fun a b => le a b = true) → (insL le x l).Pairwise fun a b => le a b = true
  | [], _ => by simp [insL]
  | y :: ys, p => by
    obtain ⟨p1, p2⟩ := List.pairwise_cons.mp p
    simp only [insL]
    split
    · rename_i hxy
      refine List.pairwise_cons.mpr ⟨fun z hz => ?_, p⟩
      rcases List.mem_cons.mp hz with rfl | hz
      · exact hxy
      · exact h.trans _ _ _ hxy (p1 z hz)
    · rename_i hxy
      have hyx : le y x = true := (h.total x y).resolve_left hxy
      refine List.pairwise_cons.mpr ⟨fun z hz => ?_, insL_pair h p2⟩
      rcases insL_mem.mp hz with rfl | hz
      · exact hyx
      · exact p1 z hz
theorem insL_filter (h : PySem.W.TotalLe le) {x c : α} : ∀ {l : List α}, (insL le x l).filter (PySem.W.sameRank le c) = (x :: l).filter (PySem.W.sameRank le c)
  | [] => by simp [insL]
  | y :: ys => by
    simp only [insL]
    split
    · rfl
    · rename_i hxy
      rw [List.filter_cons, insL_filter h (l := ys)]
      simp only [List.filter_cons]
      by_cases cx : PySem.W.sameRank le c x = true
      · have cy : PySem.W.sameRank le c y = false := by
          cases q : PySem.W.sameRank le c y with
          | false => rfl
          | true =>
            unfold PySem.W.sameRank at cx q
            simp only [Bool.and_eq_true] at cx q
            exact absurd (h.trans _ _ _ cx.2 q.1) hxy
        simp [cx, cy]
      · simp [cx]
theorem sortL_pair (h : PySem.W.TotalLe le) : ∀ l : List α, (sortL le l).Pairwise fun a b => le a b = true
  | [] => List.Pairwise.nil
  | x :: xs => insL_pair h (sortL_pair h xs)
theorem sortL_filter (h : PySem.W.TotalLe le) (c : α) : ∀ l : List α, (sortL le l).filter (PySem.W.sameRank le c) = l.filter (PySem.W.sameRank le c)
  | [] => rfl
  | x :: xs => by
    simp only [sortL]
    rw [insL_filter h, List.filter_cons, List.filter_cons, sortL_filter h c xs]
theorem sortL_eq (h : PySem.W.TotalLe le) (l : List α) : sortL le l = l.mergeSort le := PySem.W.sort_unique h (sortL_pair h l) fun c => sortL_filter h c l
theorem sortL_len (h : PySem.W.TotalLe le) (l : List α) : (sortL le l).length = l.length := by rw [sortL_eq h, List.length_mergeSort]
theorem sortL_mem (h : PySem.W.TotalLe le) {l : List α} {x : α} : x ∈ sortL le l ↔ x ∈ l := by rw [sortL_eq h]; exact List.mem_mergeSort
end
theorem leD_total : PySem.W.TotalLe leD := by rw [leD_eq]; exact PySem.W.sortLe_total _ _ _
def sortD (xs : List D) : List D := sortL leD xs

/-! which data can be sorted -/
mutual
def alikeD : D → D → Bool
  | .bl _, .bl _ => true
  | .int _, .int _ => true
  | .str _, .str _ => true
  | .non, .non => true
  | .lst xs, .lst ys => alikeL xs ys
  | .tup xs, .tup ys => alikeL xs ys
  | _, _ => false
def alikeL : List D → List D → Bool
  | x :: xs, y :: ys => alikeD x y && alikeL xs ys
  | [], _ => true
  | _ :: _, [] => true
end
mutual
theorem alikeD_ok : ∀ {x y : D}, alikeD x y = true → PySem.W.alike x.toPy y.toPy = true
  | x, y, h => by
    cases x with
    | bl b => cases y <;> first | rfl | simp [alikeD] at h
    | int b => cases y <;> first | rfl | simp [alikeD] at h
    | str b => cases y <;> first | rfl | simp [alikeD] at h
    | non => cases y <;> first | rfl | simp [alikeD] at h
    | lst xs =>
      cases y with
      | lst ys => simp only [alikeD] at h; simp only [D.toPy, PySem.W.alike]; exact alikeL_ok h
      | _ => simp [alikeD] at h
    | tup xs =>
      cases y with
      | tup ys => simp only [alikeD] at h; simp only [D.toPy, PySem.W.alike]; exact alikeL_ok h
      | _ => simp [alikeD] at h
    | _ => simp [alikeD] at h
theorem alikeL_ok : ∀ {xs ys : List D}, alikeL xs ys = true → PySem.W.alikeAll (toPyL xs) (toPyL ys) = true
  | [], _, _ => by simp [toPyL, PySem.W.alikeAll]
  | _ :: _, [], _ => by simp [toPyL, PySem.W.alikeAll]
  | x :: xs, y :: ys, h => by
    simp only [alikeL, Bool.and_eq_true] at h
    simp only [toPyL, PySem.W.alikeAll, Bool.and_eq_true]
    exact ⟨alikeD_ok h.1, alikeL_ok h.2⟩
end
def allAlike (xs : List D) : Bool := xs.all fun x => xs.all fun y => alikeD x y
def isTup1 : D → Bool
  | .tup (_ :: _) => true
  | _ => false
def isPlain : D → Bool
  | .bl _ => true | .int _ => true | .str _ => true | .lst _ => true | _ => false
def sortable (xs : List D) : Bool := allAlike xs && (xs.all isTup1 || xs.all isPlain) && okNL 62 xs && decide (xs.length ≤ 16777216)
/-! ### sorted(xs) -/
theorem dp_each {X : Cx} {tb : Tb} {C : Addr → Prop} {pins : List (Addr × Obj)} {σ : St} {H : Hp} {s : Shared} (I : Inv X pins σ H s) : ∀ {ds : List D} {vs : List V} {us : List Value}, okNL 62 ds = true → RepL (pgOf X tb) C H ds vs → Vals vs us →
    PySem.W.EachIs (fun u d => ∃ v, RelV v u ∧ Rep (pgOf X tb) C H d v) us ds ∧ PySem.W.EachIs (fun u d => ∃ as, Reads s.heap u (D.toPy d) as) us ds
  | [], _, _, _, r, rv => by
    simp only [RepL] at r
    subst r
    cases rv
    exact ⟨.nil, .nil⟩
  | d :: ds, _, us, hd, r, rv => by
    simp only [RepL] at r
    obtain ⟨v, ws, rfl, r1, r2⟩ := r
    simp only [okNL, Bool.and_eq_true] at hd
    cases rv with
    | cons q1 q2 =>
      obtain ⟨a, b⟩ := dp_each I hd.2 r2 q2
      exact ⟨.cons ⟨v, q1, r1⟩ a, .cons (Dp.reads I _ _ _ (Rep.dp 62 d v hd.1 r1).1 q1) b⟩
theorem each_back {X : Cx} {tb : Tb} {C : Addr → Prop} {H : Hp} : ∀ {ds : List D} {us : List Value}, PySem.W.EachIs (fun u d => ∃ v, RelV v u ∧ Rep (pgOf X tb) C H d v) us ds → ∃ vs, Vals vs us ∧ RepL (pgOf X tb) C H ds vs
  | _, _, .nil => ⟨[], .nil, .nil⟩
  | _, _, .cons ⟨v, r1, r2⟩ t => by
    obtain ⟨vs, a, b⟩ := each_back t
    exact ⟨v :: vs, .cons r1 a, .cons r2 b⟩
theorem sortable_py {ds : List D} (h : sortable ds = true) : PySem.W.AllAlike (ds.map D.toPy) ∧ PySem.W.Sortable (ds.map D.toPy) ∧ okNL 62 ds = true ∧ ds.length ≤ sizeLine := by
  unfold sortable at h
  simp only [Bool.and_eq_true, Bool.or_eq_true, decide_eq_true_eq] at h
  obtain ⟨⟨⟨h1, h2⟩, h3⟩, h4⟩ := h
  refine ⟨fun d hd d' hd' => ?_, ?_, h3, by rw [size16]; exact h4⟩
  · obtain ⟨x, hx, rfl⟩ := List.mem_map.mp hd
    obtain ⟨y, hy, rfl⟩ := List.mem_map.mp hd'
    exact alikeD_ok (List.all_eq_true.mp (List.all_eq_true.mp h1 x hx) y hy)
  · rcases h2 with h2 | h2
    · refine .inl fun d hd => ?_
      obtain ⟨x, hx, rfl⟩ := List.mem_map.mp hd
      have := List.all_eq_true.mp h2 x hx
      unfold isTup1 at this
      split at this
      · rename_i y ys
        exact ⟨y.toPy, toPyL ys, by simp [D.toPy, toPyL]⟩
      · cases this
    · refine .inr fun d hd => ?_
      obtain ⟨x, hx, rfl⟩ := List.mem_map.mp hd
      have := List.all_eq_true.mp h2 x hx
      unfold isPlain at this
      split at this <;> first | (simp [D.toPy]; done) | cases this
/-- the items that sorted gathers -/
def gathD : D → Option (List D)
  | .lst xs => some xs
  | .tup xs => some xs
  | .dic kvs => some (keysL kvs)
  | _ => none
def sortedD (x : D) : Option D := (gathD x).bind fun xs => if sortable xs then some (.lst (sortD xs)) else none
theorem RepL.repP {p : Pg} {C : Addr → Prop} {H : Hp} : ∀ {kvs : List (D × D)} {kws : List (Key × V)}, RepK p C H kvs kws → RepL p C H (keysL kvs) (kws.map fun q => kV q.1)
  | [], _, h => by simp only [RepK] at h; subst h; simp [keysL, RepL]
  | (k, d) :: r, _, h => by
    simp only [RepK] at h
    obtain ⟨kk, v, ws, rfl, r1, r2, q⟩ := h
    simp only [keysL, RepL, List.map_cons]
    exact ⟨_, _, rfl, r1, RepL.repP q⟩
section
variable {X : Cx} {tb : Tb} {W : WX} {pos : Pos}
def rSortedD (X : Cx) (tb : Tb) : List V → Hp → VK → Prop := fun xs H Q => ∃ (v : V) (x : D) (C : Addr → Prop) (ds : List D), xs = [v] ∧ RepP (pgOf X tb) C H x v ∧ gathD x = some ds ∧ sortable ds = true ∧
  ∀ vs p, RepL (pgOf X tb) C H (sortD ds) vs → H p = none → Q (.ref p) (upd H p (.lst vs))
theorem each_ex {α β : Type} {R : α → β → Prop} : ∀ {us : List α} {ds : List β}, PySem.W.EachIs R us ds → ∀ d ∈ ds, ∃ u, R u d
  | _, _, .nil, d, hd => absurd hd List.not_mem_nil
  | _, _, .cons r t, d, hd => by
    rcases List.mem_cons.mp hd with rfl | hd
    · exact ⟨_, r⟩
    · exact each_ex t d hd
theorem vals_keys {P : Program} {w : World} : ∀ {vs : List (Key × Value)} {acc : List Value}, acc.length = vs.length → (∀ (j : Nat) (v : Value), acc[j]? = some v → ∃ (k : Key) (x : Value), vs[j]? = some (k, x) ∧ (mixKind P w).is k v = true) → Vals (vs.map fun q => kV q.1) acc
  | [], [], _, _ => .nil
  | [], _ :: _, h, _ => by simp at h
  | _ :: _, [], h, _ => by simp at h
  | (k, x) :: vs, a :: acc, h, g => by
    refine .cons ?_ (vals_keys (P := P) (w := w) (by simpa using h) fun j v hv => ?_)
    · obtain ⟨k', x', e1, e2⟩ := g 0 a rfl
      cases e1
      exact relV_key e2
    · obtain ⟨k', x', e1, e2⟩ := g (j + 1) v (by simpa using hv)
      exact ⟨k', x', by simpa using e1, e2⟩
theorem gather_of (hc : X.calm = true) {pins : List (Addr × Obj)} {σ : St} {H : Hp} {s : Shared} (I : Inv X pins σ H s) {v : V} {u : Value} {x : D} {C : Addr → Prop} {ds : List D} (rv : RelV v u) (r : RepP (pgOf X tb) C H x v) (hg : gathD x = some ds) (h62 : okNL 62 ds = true) :
    ∃ l, u = .ref l ∧ (∀ d ∈ ds, ∃ v, Rep (pgOf X tb) C H d v) ∧
      ∀ (Q' : List Value → Shared → Prop) (E' : Value → Shared → Prop), (∀ its h' tk, PySem.W.EachIs (fun u d => ∃ v, RelV v u ∧ Rep (pgOf X tb) C H d v) its ds → PySem.W.EachIs (fun u d => ∃ as, Reads s.heap u (D.toPy d) as) its ds → (∀ b u, s.heap.get? b = some u → h'.get? b = some u) → Q' its { s with heap := h', toks := tk }) → wpAny (model X.prog X.w) X.A.in1 (collect (.ref l)) Q' E' s := by
  have mem : ∀ {ds : List D} {vs : List V}, RepL (pgOf X tb) C H ds vs → ∀ d ∈ ds, ∃ v, Rep (pgOf X tb) C H d v := fun {ds vs} ra d hd => by
    obtain ⟨i, hi, e⟩ := List.getElem_of_mem hd
    obtain ⟨v, _, r⟩ := ra.get (i := i) (d := d) (by rw [List.getElem?_eq_getElem hi, e])
    exact ⟨v, r⟩
  cases x with
  | lst xs =>
    cases hg
    obtain ⟨a, vs, rfl, _, ea, la, ra⟩ := r
    cases rv
    obtain ⟨its, q, ⟨o, n, ho, hc', _, hd⟩, hz⟩ := I.list (.inl ea)
    obtain ⟨e1, e2⟩ := dp_each I h62 ra q
    refine ⟨a, rfl, mem ra, fun Q' E' h => gather (.inl rfl) ho hc' hd (by rw [List.size_toArray, ← q.length]; exact hz) fun h' kp => ?_⟩
    exact h its h' s.toks e1 e2 kp
  | tup xs =>
    cases hg
    simp only [RepP, Rep] at r
    obtain ⟨a, vs, rfl, ea, la, ra⟩ := r
    cases rv
    obtain ⟨its, q, ⟨o, ho, hc', n, hd⟩, hz⟩ := I.tuple ea
    obtain ⟨e1, e2⟩ := dp_each I h62 ra q
    refine ⟨a, rfl, mem ra, fun Q' E' h => gather (.inr rfl) ho hc' hd (by rw [List.size_toArray, ← q.length]; exact hz) fun h' kp => ?_⟩
    exact h its h' s.toks e1 e2 kp
  | dic kvs =>
    cases hg
    obtain ⟨a, kws, rfl, _, ea, la, ra⟩ := r
    cases rv
    obtain ⟨z, lo, vs, rel, dd⟩ := dk_rd I.hok ea
    obtain ⟨ep, hat⟩ := dd.dictAt
    have rk := RepL.repP ra
    refine ⟨a, rfl, mem rk, fun Q' E' h => PySem.W.kdu_collect (A := X.A.in1) (PySem.W.kdl_dict (knd := mixKind X.prog X.w) (kvs := vs) (ep := ep) lo) (I.ok.hd hc) hat (by rw [← rel.length]; exact z) fun h' tk acc hk hacc => ?_⟩
    have q : Vals (vs.map fun q => kV q.1) acc.toList := vals_keys (P := X.prog) (w := X.w) (by rw [Array.length_toList]; exact hacc.1) fun j v e => hacc.2 j v (by rw [← Array.getElem?_toList]; exact e)
    have ek : (vs.map fun q => kV q.1) = kws.map fun q => kV q.1 := by
      have := rel.keys
      have h1 : (vs.map fun q => kV q.1) = (vs.map (·.1)).map kV := by rw [List.map_map]; rfl
      have h2 : (kws.map fun q => kV q.1) = (kws.map (·.1)).map kV := by rw [List.map_map]; rfl
      rw [h1, h2, this]
    rw [ek] at q
    obtain ⟨e1, e2⟩ := dp_each I h62 rk q
    exact h _ h' tk e1 e2 hk
  | _ => cases hg
theorem call_sortedD (hc : X.calm = true) (hu : X.A.units + 65 < cLine) : CallR X (.builtin "sorted") (rSortedD X tb) := fun pins s σ H xs us Q I r ⟨v, x, C, ds, ex, rp, hg, hso, q⟩ => by
  subst ex
  obtain ⟨u, rfl, rv⟩ := vals1 r
  obtain ⟨al, so, h62, hz⟩ := sortable_py hso
  obtain ⟨l, rfl, mem, coll⟩ := gather_of hc I rv rp hg h62
  refine sorted_core (R := fun u d => ∃ v, RelV v u ∧ Rep (pgOf X tb) C H d v) (enc := D.toPy) coll al so hz (fun d hd => ?_) fun out h1 h' tk c k1 k2 hat eo => ?_
  · obtain ⟨v, rd⟩ := mem d hd
    have := (Rep.dp 62 d v (okNL_mem h62 hd) rd).2.2
    omega
  · rw [← leD_eq, ← sortL_eq leD_total] at eo
    obtain ⟨vs, rv2, rp2⟩ := each_back eo
    have I1 : Inv X pins σ H { s with heap := h1 } := I.kept (t' := s.toks) k1
    have hl : vs.length ≤ sizeLine := by rw [rp2.length, sortL_len leD_total]; exact hz
    exact ⟨.ref h1.objs.size, _, I1.laid (a := h1.objs.size) (o := .lst vs) (t' := tk) k2 (Nat.le_refl _) ⟨hl, out, c, rv2, hat⟩, rfl, q vs _ rp2 (I1.hok.fresh (Nat.le_refl _))⟩
theorem qo_sorted {e : Expr} {p : Pos} {f : Env → T D} (hc : X.calm = true) (hu : X.A.units + 65 < cLine) (hg : Gl X "sorted") (hm : X.mg "sorted" = none) (ha : QP X tb W e f) (hs : starEach [e] X.env = [(false, eval e X.env)] := by rfl) (hpl : (backTo pos (starEach [] X.env)).any (·.1) = false := by rfl) :
    QO X tb W (.Call (.Name "sorted" p) [e] [] pos) (e1 sortedD f) := by
  obtain ⟨t, p1, i1⟩ := ha.ex
  refine ⟨_, pe_callB (call_sortedD (tb := tb) hc hu) hg hm (by decide +kernel) (pa_cons p1 pa_nil hs) (by decide) (by decide) hs hpl, fun g σ env H Q E hw => ?_⟩
  unfold e1 at hw
  rw [T.wp_bind] at hw
  refine i1 g σ env H _ E (T.wp_mono (fun x q v H1 s1 r1 => ?_) (fun _ z => z) hw)
  have E1 := E.step s1
  unfold sortedD at q
  cases h1 : gathD x with
  | none => rw [h1] at q; exact q.elim
  | some ds =>
    rw [h1, Option.bind_some] at q
    split at q
    · rename_i h2
      refine ⟨v, x, g.C, ds, rfl, r1, h1, h2, fun vs p rs hp => ?_⟩
      obtain ⟨n0, h0⟩ := E1.free0 hp
      refine q p _ (s1.trans (E1.alloc hp)) (E1.float hp) n0 h0 (s1.free hp) ⟨vs, upd_same, ?_, rs.mv (E1.mvFloat hp)⟩
      unfold sortD
      rw [sortL_len leD_total]
      exact (sortable_py h2).2.2.2
    · exact q.elim
end
end MM

namespace MM
open PySem PySem.Spec L2

/-! ### a def that answers row[k]: as a key -/
/-- u is a tuple that stands in h, its item k reads as d, without lists -/
def ItemAt (h : Heap) (k : Nat) (u : Value) (d : PyData) : Prop := ∃ a o its n w, u = .ref a ∧ h.get? a = some o ∧ o.cls = .type "tuple" ∧ o.data = .seq its n ∧ its[k]? = some w ∧ Reads h w d []
theorem ItemAt.keeps {h h' : Heap} {k : Nat} {u : Value} {d : PyData} (x : ItemAt h k u d) (kp : ∀ b o, h.get? b = some o → h'.get? b = some o) : ItemAt h' k u d :=
  let ⟨a, o, its, n, w, e, ho, hc, hd, hw, hr⟩ := x; ⟨a, o, its, n, w, e, kp _ _ ho, hc, hd, hw, PyProof.Rows.Reads.keeps kp hr⟩
section
variable {P : Program} {w : World} {K : PySem.W.Frag}
/-- what the key def looks like -/
def keyBody (st : Stmt) (x : Str) (k : Nat) : Prop := ∃ j p1 p2 p3 p4, defBody st = [.Return (some (.Subscript (.Name x p1) (.Constant (.int (k : Int)) j p2) p3)) p4]
theorem key_call {x y qual : Str} {st : Stmt} {f : Addr} {fd : FuncData} {N : List Str} {k : Nat} {A : Around} {s : Shared} {u : Value} {d : PyData} (F : Fun K x qual st f fd) (S : FnScope N [y] (defScope st)) (hb : Binds K fd [y] []) (hk : k < 4096)
    (hbody : keyBody st y k) (hy : (defScope st).names.lookup y = some .local) (hdb : (y == ("__debug__" : Str)) = false) (hd : A.depth < recursionLimit) (KX : K.In s.heap) (lim : s.heap.NoLimit) (hi : ItemAt s.heap k u d) :
    wpAny (model P w) A (call (.ref f) [u]) (PySem.W.KeyPure d s) (fun _ _ => False) s := by
  obtain ⟨oc, od, kV, doc, pm, an, cdv, ct, osl, rfl, lk, hcd⟩ := F.ex
  obtain ⟨j, p1, p2, p3, p4, eb⟩ := hbody
  refine wpAny_call ?_
  refine codeAny_call_function hd (KX _ _ lk) rfl S.co S.gen rfl (PySem.W.codeRec_of KX hcd) (hb s [u] KX (by simp) _ _ _ _ ?_)
  refine wpAny_newFunctionEnv_cells S.kind (fun z hz => by
    have : z = (y, u) := by simpa using hz
    subst this
    exact .inl hy) fun env he s1 ic => ?_
  subst he
  refine ⟨lim.keeps ic.toInCall.keep, codeAny_func ?_⟩
  show wpAny _ _ (execs (defBody st) _) _ _ s1
  rw [eb]
  refine wpAny_execs_cons (wpAny_Return_some ?_)
  have kp : ∀ b o, s.heap.get? b = some o → s1.heap.get? b = some o := ic.toInCall.keep
  obtain ⟨a, o, its, n, w, rfl, ho, hc, hdat, hw, hr⟩ := hi
  refine wpAny_Subscript_Constant_late (NameLC (v := .ref a) ic S.kind ?_ ?_ (wpAny_Constant_int ⟨"tuple", _, PyProof.Rows.slot_tuple_getitem.lookup, ⟨o, kp _ _ ho, hc⟩, ?_⟩) hdb)
  · exact hy
  · show bindL _ [(y, Value.ref a)] _ y = _
    unfold bindL bindL
    split
    · simp
    · rename_i z
      exact absurd hy z
  · have hz : k < its.size := by
      obtain ⟨h1, _⟩ := Array.getElem?_eq_some_iff.mp hw
      exact h1
    refine PyProof.Rows.getItem_tuple (x := w) ⟨o, kp _ _ ho, hc, n, hdat⟩ (by omega) (by omega) (seqIndex_of (by omega) (by omega)) (by simpa using hw) ?_
    obtain ⟨h', tk, rfl, kk⟩ := ic.done
    exact ⟨h', _, rfl, kk, PyProof.Rows.Reads.keeps kk hr⟩
end

/-! ### sorted(xs, key=a_def) -/
section
variable {prog : Program} {w : World} {A : Around} {E : Value → Shared → Prop} {s : Shared}
open PySem.W in
theorem sortedK_core {β : Type} {l f : Addr} {bs : List β} {R : Value → β → Prop} {enc : β → PyData} {Q : Value → Shared → Prop}
    (coll : ∀ (Q' : List Value → Shared → Prop) (E' : Value → Shared → Prop), (∀ its h' tk, EachIs R its bs → (∀ b u, s.heap.get? b = some u → h'.get? b = some u) → Q' its { s with heap := h', toks := tk }) → wpAny (model prog w) A.in1 (collect (.ref l)) Q' E' s)
    (hal : AllAlike (bs.map enc)) (hk : PySem.W.Sortable (bs.map enc)) (hL : bs.length ≤ sizeLine) (hu : ∀ b, b ∈ bs → A.units + 2 + (enc b).depth < cLine)
    (turn : ∀ (v : Value) (x : β), R v x → x ∈ bs → ∀ (h : Heap) (tk : Nat), (∀ b o, s.heap.get? b = some o → h.get? b = some o) → wpAny (model prog w) A.in1.in1 (call (.ref f) [v]) (KeyPure (enc x) { s with heap := h, toks := tk }) (fun _ _ => False) { s with heap := h, toks := tk })
    (h : ∀ (out : List Value) (h1 h' : Heap) tk c, (∀ b u, s.heap.get? b = some u → h1.get? b = some u) → (∀ b u, h1.get? b = some u → h'.get? b = some u) → h'.get? h1.objs.size = some (PyProof.Rows.seqObj "list" out.toArray c) → EachIs R out (bs.mergeSort (dataLe false enc)) → Q (.ref h1.objs.size) { s with heap := h', toks := tk }) :
    wpAny (model prog w) A (call (.builtin "sorted") [.ref l] [(Str.ofString "key", .ref f)]) Q E s := by
  refine PyProof.Rows.call_function_entry_kw PyProof.Rows.kind_sorted PyProof.Rows.plain_sorted PyProof.Rows.entry_sorted (PyProof.Rows.ksk_s1 _ _) ?_
  unfold Builtin.«sorted»
  refine wpAny_bind (m := checkCount "sorted" 1 1 _) (wpAny_pure (wpAny_bind (coll _ _ fun its h1 tk e kp => ?_)))
  have hz : its.length ≤ sizeLine := by rw [e.length]; exact hL
  refine wpAny_bind (wpAny_newList ?_ hz)
  have hn : (h1.push (PyProof.Rows.seqObj "list" its.toArray 0)).get? h1.objs.size = some (PyProof.Rows.seqObj "list" its.toArray 0) := Heap.get?_push_size _ rfl
  have k1 : ∀ b u, h1.get? b = some u → (h1.push (PyProof.Rows.seqObj "list" its.toArray 0)).get? b = some u := fun b u q => Heap.get?_push_of_some _ q
  have ne : ∀ b u, h1.get? b = some u → b ≠ h1.objs.size := fun b u q => Nat.ne_of_lt (Heap.lt_size q)
  have up : ∀ {g : Heap}, KeepsBut h1.objs.size (h1.push (PyProof.Rows.seqObj "list" its.toArray 0)) g → ∀ b u, h1.get? b = some u → g.get? b = some u := fun {g} kk b u q => kk b u (ne b u q) (k1 b u q)
  show wpAny _ _ (holding [Value.ref h1.objs.size] (call (.builtin "list.sort") [.ref h1.objs.size] [(Str.ofString "key", .ref f)]) >>= fun _ => ret (.ref h1.objs.size)) _ _ { s with heap := h1.push (PyProof.Rows.seqObj "list" its.toArray 0), toks := tk }
  refine wpAny_bind (wpAny_holding (PyProof.Rows.wpAny_call_entry_kw PyProof.Rows.slot_list_sort ⟨_, hn, rfl⟩ PyProof.Rows.entry_list_sort ?_ (PyProof.Rows.ksk_l1 _ _)))
  rw [PyProof.Rows.ksk_t1]
  refine keyH_tree (kz := bs.map enc) (s := { s with heap := h1.push (PyProof.Rows.seqObj "list" its.toArray 0), toks := tk }) hn (by rw [List.length_map]; exact e.length.symm) hz hal hk (bound_map hu)
    (keyH_turns (s := { s with heap := h1.push (PyProof.Rows.seqObj "list" its.toArray 0), toks := tk }) e fun v x hR hx g tk' kk => turn v x hR hx g tk' fun b o q => up kk b o (kp b o q)) fun h' tk' out c kk hD ko => ⟨.none, rfl, ?_⟩
  exact wpAny_pure ⟨_, rfl, h out h1 h' tk' c kp (up kk) hD (keyedOut_each enc ko e)⟩
end

/-! ### its mirror -/
theorem each_mem {α β : Type} {R S : α → β → Prop} : ∀ {us : List α} {ds : List β}, PySem.W.EachIs R us ds → (∀ u d, d ∈ ds → R u d → S u d) → PySem.W.EachIs S us ds
  | _, _, .nil, _ => .nil
  | _, _, .cons r t, h => .cons (h _ _ List.mem_cons_self r) (each_mem t fun u d hd => h u d (List.mem_cons_of_mem _ hd))
def keyD (k : Nat) : D → D
  | .tup xs => (xs[k]?).getD .non
  | _ => .non
def keyOk (k : Nat) : D → Bool
  | .tup xs => match xs[k]? with
    | some (.int _) => true
    | some (.str _) => true
    | _ => false
  | _ => false
def sortableK (k : Nat) (xs : List D) : Bool := xs.all (keyOk k) && sortable (xs.map (keyD k)) && okNL 62 xs
def sortKL (k : Nat) (xs : List D) : List D := sortL (fun x y => leD (keyD k x) (keyD k y)) xs
def sortedKD (k : Nat) (x : D) : Option D := (gathD x).bind fun xs => if sortableK k xs then some (.lst (sortKL k xs)) else none
theorem leK_eq {k : Nat} : (fun x y => leD (keyD k x) (keyD k y)) = PySem.W.dataLe false fun d => (keyD k d).toPy := by
  funext x y
  rw [leD_eq]
  rfl
theorem leK_total {k : Nat} : PySem.W.TotalLe fun x y => leD (keyD k x) (keyD k y) := by rw [leK_eq]; exact PySem.W.sortLe_total _ _ _
section
variable {X : Cx} {tb : Tb} {W : WX} {pos : Pos}
theorem item_of {pins : List (Addr × Obj)} {σ : St} {H : Hp} {s : Shared} (I : Inv X pins σ H s) {C : Addr → Prop} {k : Nat} {d : D} {v : V} {u : Value} (rv : RelV v u) (r : Rep (pgOf X tb) C H d v) (hk : keyOk k d = true) : ItemAt s.heap k u (keyD k d).toPy := by
  unfold keyOk at hk
  split at hk
  · rename_i xs
    simp only [Rep] at r
    obtain ⟨a, vs, rfl, ea, la, ra⟩ := r
    cases rv
    obtain ⟨its, q, ⟨o, ho, hc', n, hd⟩, hz⟩ := I.tuple ea
    have fin : ∀ {e : D} {w : V}, xs[k]? = some e → vs[k]? = some w → ∃ z, its.toArray[k]? = some z ∧ RelV w z := fun {e w} _ h2 => by
      obtain ⟨z, h3, h4⟩ := q.get h2
      exact ⟨z, by simpa using h3, h4⟩
    split at hk
    · rename_i n' h1
      obtain ⟨w, h2, r2⟩ := ra.get h1
      simp only [Rep] at r2
      subst r2
      obtain ⟨z, h3, t, rfl⟩ := fin h1 h2
      exact ⟨a, o, _, n, _, rfl, ho, hc', hd, h3, by have e : keyD k (.tup xs) = .int n' := by simp only [keyD, h1, Option.getD_some]
                                                     rw [e]; exact .int _ _⟩
    · rename_i x h1
      obtain ⟨w, h2, r2⟩ := ra.get h1
      simp only [Rep] at r2
      obtain ⟨rfl, _, _⟩ := r2
      obtain ⟨z, h3, t, rfl⟩ := fin h1 h2
      refine ⟨a, o, _, n, _, rfl, ho, hc', hd, h3, ?_⟩
      have e : keyD k (.tup xs) = .str x := by simp only [keyD, h1, Option.getD_some]
      rw [e]
      exact .str _ _
    · cases hk
  · cases hk
/-- a def `def f(y): return y[k]` of the text, for use as a key -/
structure KeyAt (K : PySem.W.Frag) (mg : Str → Option Value) (x : Str) (k : Nat) : Prop where
  ex : ∃ (f : Addr) (fd : FuncData) (y qual : Str) (st : Stmt) (N : List Str), Fun K x qual st f fd ∧ mg x = some (.ref f) ∧ FnScope N [y] (defScope st) ∧ Binds K fd [y] [] ∧ k < 4096 ∧ keyBody st y k ∧ (defScope st).names.lookup y = some .local ∧ (y == ("__debug__" : Str)) = false
def rSortedK (X : Cx) (tb : Tb) (k : Nat) (f : Addr) : List V → List V → Hp → VK → Prop := fun xs zs H Q => ∃ (v : V) (x : D) (C : Addr → Prop) (ds : List D), xs = [v] ∧ zs = [.ref f] ∧ RepP (pgOf X tb) C H x v ∧ gathD x = some ds ∧ sortableK k ds = true ∧
  ∀ vs p, RepL (pgOf X tb) C H (sortKL k ds) vs → H p = none → Q (.ref p) (upd H p (.lst vs))
theorem call_sortedK {x y qual : Str} {st : Stmt} {f : Addr} {fd : FuncData} {N : List Str} {k : Nat} (hc : X.calm = true) (hu : X.A.units + 65 < cLine) (hdp : X.A.depth < recursionLimit) (F : Fun X.K x qual st f fd) (S : FnScope N [y] (defScope st)) (hb : Binds X.K fd [y] []) (hk : k < 4096)
    (hbody : keyBody st y k) (hy : (defScope st).names.lookup y = some .local) (hdb : (y == ("__debug__" : Str)) = false) : CallRK X (.builtin "sorted") [Str.ofString "key"] (rSortedK X tb k f) := fun pins s σ H xs zs us ws Q I r rz ⟨v, x, C, ds, ex, ez, rp, hg, hso, q⟩ => by
  subst ex ez
  obtain ⟨u, rfl, rv⟩ := vals1 r
  obtain ⟨w, rfl, rw'⟩ := vals1 rz
  obtain rfl : w = Value.ref f := rw'
  unfold sortableK at hso
  simp only [Bool.and_eq_true] at hso
  obtain ⟨⟨hko, hso⟩, h62⟩ := hso
  obtain ⟨al, so, h62', hz⟩ := sortable_py hso
  rw [List.length_map] at hz
  have hko' : ∀ d ∈ ds, keyOk k d = true := List.all_eq_true.mp hko
  have eM : (ds.map (keyD k)).map D.toPy = ds.map fun d => (keyD k d).toPy := by rw [List.map_map]; rfl
  rw [eM] at al so
  obtain ⟨l, rfl, mem, coll⟩ := gather_of hc I rv rp hg h62
  refine sortedK_core (R := fun u d => keyOk k d = true → (∃ v, RelV v u ∧ Rep (pgOf X tb) C H d v) ∧ ItemAt s.heap k u (keyD k d).toPy) (enc := fun d => (keyD k d).toPy) (fun Q' E' h => coll Q' E' fun its h' tk e1 e2 kp => h its h' tk (e1.mono fun u d ⟨v, a, b⟩ => fun hk => ⟨⟨v, a, b⟩, item_of I a b hk⟩) kp) al so hz (fun d hd => ?_)
    (fun z d hR hd g tk kp => ?_) fun out h1 h' tk c k1 k2 hat eo => ?_
  · have hd' := hko' d hd
    have : (keyD k d).toPy.depth = 0 := by
      unfold keyOk at hd'
      split at hd'
      · split at hd' <;> first | (rename_i h; simp [keyD, h, D.toPy, PyData.depth]; done) | cases hd'
      · cases hd'
    omega
  · exact key_call (s := { s with heap := g, toks := tk }) F S hb hk hbody hy hdb hdp (I.kIn.keeps kp) (I.nolimit.keeps kp) ((hR (hko' d hd)).2.keeps kp)
  · rw [← leK_eq, ← sortL_eq leK_total] at eo
    have eo' : PySem.W.EachIs (fun u d => ∃ v, RelV v u ∧ Rep (pgOf X tb) C H d v) out (sortKL k ds) := by
      refine each_mem eo fun u d hd h => (h (hko' d ((sortL_mem leK_total).mp hd))).1
    obtain ⟨vs, rv2, rp2⟩ := each_back eo'
    have I1 : Inv X pins σ H { s with heap := h1 } := I.kept (t' := s.toks) k1
    have hl : vs.length ≤ sizeLine := by
      rw [rp2.length]
      unfold sortKL
      rw [sortL_len leK_total]
      exact hz
    exact ⟨.ref h1.objs.size, _, I1.laid (a := h1.objs.size) (o := .lst vs) (t' := tk) k2 (Nat.le_refl _) ⟨hl, out, c, rv2, hat⟩, rfl, q vs _ rp2 (I1.hok.fresh (Nat.le_refl _))⟩
theorem qo_sortedK {e : Expr} {p kp np : Pos} {x : Str} {k : Nat} {f : Env → T D} (hc : X.calm = true) (hu : X.A.units + 65 < cLine) (hdp : X.A.depth < recursionLimit) (kk : KeyAt X.K X.mg x k) (hg : Gl X "sorted") (hm : X.mg "sorted" = none) (ha : QP X tb W e f) (hgx : Gl X x := by rfl) (hdx : (x == ("__debug__" : Str)) = false := by decide) (hs : starEach [e] X.env = [(false, eval e X.env)] := by rfl)
    (he : backTo pos (starEach [e] X.env) = (false, eval e X.env) :: backTo pos (starEach [] X.env) := by rfl) (hpl : (backTo pos (starEach [e] X.env)).any (·.1) = false := by rfl)
    (hall : (backToKw pos (keywordEach [⟨some (Str.ofString "key"), .Name x np, kp⟩] X.env)).all (·.1.isSome) = true := by rfl) (hnone : (backToKw pos (keywordEach [⟨some (Str.ofString "key"), .Name x np, kp⟩] X.env)).any (·.1.isNone) = false := by rfl) (hks : (backToKw pos (keywordEach [⟨some (Str.ofString "key"), .Name x np, kp⟩] X.env)).filterMap (·.1) = [Str.ofString "key"] := by rfl) :
    QO X tb W (.Call (.Name "sorted" p) [e] [⟨some (Str.ofString "key"), .Name x np, kp⟩] pos) (e1 (sortedKD k) f) := by
  obtain ⟨t, p1, i1⟩ := ha.ex
  obtain ⟨fa, fd, y, qual, st, N, F, gm, S, hb, hk, hbody, hy, hdb⟩ := kk.ex
  refine ⟨_, pe_callBK (call_sortedK (tb := tb) hc hu hdp F S hb hk hbody hy hdb) hg hm (by decide +kernel) (pa_cons p1 pa_nil hs) (pk_cons (pe_glob (v := .ref fa) hgx gm rfl hdx) pk_nil) (by decide) (by decide) he hpl hall hnone hks, fun g σ env H Q E hw => ?_⟩
  unfold e1 at hw
  rw [T.wp_bind] at hw
  refine i1 g σ env H _ E (T.wp_mono (fun x q v H1 s1 r1 => ?_) (fun _ z => z) hw)
  have E1 := E.step s1
  unfold sortedKD at q
  cases h1 : gathD x with
  | none => rw [h1] at q; exact q.elim
  | some ds =>
    rw [h1, Option.bind_some] at q
    split at q
    · rename_i h2
      refine ⟨v, x, g.C, ds, rfl, rfl, r1, h1, h2, fun vs p rs hp => ?_⟩
      obtain ⟨n0, h0⟩ := E1.free0 hp
      refine q p _ (s1.trans (E1.alloc hp)) (E1.float hp) n0 h0 (s1.free hp) ⟨vs, upd_same, ?_, rs.mv (E1.mvFloat hp)⟩
      unfold sortKL
      rw [sortL_len leK_total]
      unfold sortableK at h2
      simp only [Bool.and_eq_true] at h2
      have := (sortable_py h2.1.2).2.2.2
      rw [List.length_map] at this
      exact this
    · exact q.elim
end
end MM

namespace MM
open PySem PySem.Spec L2

/-! ### several things that float -/
def Gh.fls (g : Gh) : List Addr → Gh
  | [] => g
  | a :: as => (Gh.fls g as).fl a
theorem Gh.fls_fl {g : Gh} {a : Addr} : ∀ {as : List Addr}, (g.fl a).fls as = (g.fls as).fl a
  | [] => rfl
  | b :: as => by
    show ((g.fl a).fls as).fl b = ((g.fls as).fl b).fl a
    rw [Gh.fls_fl, Gh.fl_comm]
theorem Gh.fls_N0 {g : Gh} {b : Addr} : ∀ {as : List Addr}, (g.fls as).N0 b ↔ g.N0 b ∨ b ∈ as
  | [] => by simp [Gh.fls]
  | a :: as => by
    show (g.fls as).N0 b ∨ b = a ↔ _
    rw [Gh.fls_N0, List.mem_cons]
    constructor
    · rintro ((h | h) | h)
      · exact .inl h
      · exact .inr (.inr h)
      · exact .inr (.inl h)
    · rintro (h | h | h)
      · exact .inl (.inl h)
      · exact .inr h
      · exact .inl (.inr h)
theorem Gh.fls_C {g : Gh} : ∀ {as : List Addr}, (g.fls as).C = g.C
  | [] => rfl
  | a :: as => (Gh.fls_C (g := g) (as := as) :)
theorem Gh.fls_H0 {g : Gh} : ∀ {as : List Addr}, (g.fls as).H0 = g.H0
  | [] => rfl
  | a :: as => (Gh.fls_H0 (g := g) (as := as) :)
abbrev FD := Bool × D
/-- values of which some float -/
def FlL (p : Pg) (g : Gh) (H0 H : Hp) : List FD → List V → List Addr → Prop
  | [], vs, as => vs = [] ∧ as = []
  | (true, d) :: ds, vs, as => ∃ a ws bs, vs = .ref a :: ws ∧ as = a :: bs ∧ OwnRep p g.C H d a ∧ (¬ g.N0 a ∧ ¬ Ob g.H0 a ∧ ¬ Ob H0 a) ∧ a ∉ bs ∧ FlL p g H0 H ds ws bs
  | (false, d) :: ds, vs, as => ∃ v ws, vs = v :: ws ∧ Rep p g.C H d v ∧ FlL p g H0 H ds ws as
section
variable {p : Pg} {g : Gh} {σ : St} {env : Env} {H0 H H' : Hp}
theorem FlL.kept (m : Mv H H') : ∀ {ds : List FD} {vs : List V} {as : List Addr}, (∀ b u, b ∈ as → ¬ g.N0 b → H b = some u → (∀ ps, u ≠ .tbl ps) → H' b = some u) → FlL p g H0 H ds vs as → FlL p g H0 H' ds vs as
  | [], _, _, _, h => h
  | (true, d) :: ds, _, _, k, h => by
    obtain ⟨a, ws, bs, e1, rfl, r, n, nb, q⟩ := h
    exact ⟨a, ws, bs, e1, rfl, r.mv m fun o ho ht => k a o List.mem_cons_self n.1 ho ht, n, nb, FlL.kept m (fun b u hb => k b u (List.mem_cons_of_mem _ hb)) q⟩
  | (false, d) :: ds, _, _, k, h => by
    obtain ⟨v, ws, e1, r, q⟩ := h
    exact ⟨v, ws, e1, r.mv m, FlL.kept m k q⟩
theorem FlL.sub {a : Addr} {H1 : Hp} (dm : ∀ b, Ob H0 b → Ob H1 b) : ∀ {ds : List FD} {vs : List V} {as : List Addr}, FlL p (g.fl a) H1 H ds vs as → FlL p g H0 H ds vs as ∧ a ∉ as
  | [], _, _, h => ⟨h, by rw [h.2]; simp⟩
  | (true, d) :: ds, _, _, h => by
    obtain ⟨b, ws, bs, e1, e2, r, ⟨n1, n2, n3⟩, nb, q⟩ := h
    obtain ⟨q1, q2⟩ := FlL.sub dm q
    refine ⟨⟨b, ws, bs, e1, e2, r, ⟨fun z => n1 (.inl z), n2, fun z => n3 (dm b z)⟩, nb, q1⟩, ?_⟩
    rw [e2]
    simp only [List.mem_cons, not_or]
    exact ⟨fun z => n1 (.inr z.symm), q2⟩
  | (false, d) :: ds, _, _, h => by
    obtain ⟨v, ws, e1, r, q⟩ := h
    obtain ⟨q1, q2⟩ := FlL.sub dm q
    exact ⟨⟨v, ws, e1, r, q1⟩, q2⟩
theorem FlL.dom {H1 : Hp} (dm : ∀ b, Ob H0 b → Ob H1 b) : ∀ {ds : List FD} {vs : List V} {as : List Addr}, FlL p g H1 H ds vs as → FlL p g H0 H ds vs as
  | [], _, _, h => h
  | (true, d) :: ds, _, _, h => by
    obtain ⟨b, ws, bs, e1, e2, r, ⟨n1, n2, n3⟩, nb, q⟩ := h
    exact ⟨b, ws, bs, e1, e2, r, ⟨n1, n2, fun z => n3 (dm b z)⟩, nb, FlL.dom dm q⟩
  | (false, d) :: ds, _, _, h => by
    obtain ⟨v, ws, e1, r, q⟩ := h
    exact ⟨v, ws, e1, r, FlL.dom dm q⟩
theorem FlL.len : ∀ {ds : List FD} {vs : List V} {as : List Addr}, FlL p g H0 H ds vs as → vs.length = ds.length
  | [], _, _, h => by rw [h.1]; rfl
  | (true, d) :: ds, _, _, h => by
    obtain ⟨b, ws, bs, rfl, e2, r, _, nb, q⟩ := h
    simp [FlL.len q]
  | (false, d) :: ds, _, _, h => by
    obtain ⟨v, ws, rfl, r, q⟩ := h
    simp [FlL.len q]
theorem FlL.step (E : ER p g σ env H) (s : Step p g.C H H') {ds : List FD} {vs : List V} {as : List Addr} (h : FlL p g H0 H ds vs as) : FlL p g H0 H' ds vs as :=
  FlL.kept (E.mv s) (fun b u _ hn hu ht => s.grow b u hu (fun c => hn (g.hC b c)) ht) h
end
def ImpF (p : Pg) (W : WX) (t : TA) (f : Env → T (List FD)) : Prop := ∀ g σ env H (Q : List V → Hp → Prop), ER p g σ env H →
  (f env).wp (fun ds => ∀ vs as H', Step p g.C H H' → ER p (g.fls as) σ env H' → FlL p g H H' ds vs as → Q vs H') (XP p g σ H W) → t σ H Q
structure QF (X : Cx) (tb : Tb) (W : WX) (es : List Expr) (f : Env → T (List FD)) : Prop where
  ex : ∃ t, PA X es t ∧ ImpF (pgOf X tb) W t f
def fNil : Env → T (List FD) := fun _ => .ret []
def fCons (b : Bool) (f : Env → T D) (r : Env → T (List FD)) : Env → T (List FD) := fun env => (f env).bind fun d => (r env).bind fun ds => .ret ((b, d) :: ds)
section
variable {X : Cx} {tb : Tb} {W : WX} {pos : Pos}
theorem qf_nil : QF X tb W [] fNil := ⟨_, pa_nil, fun g σ env H Q E hw => hw [] [] H E.refl E ⟨rfl, rfl⟩⟩
theorem qf_frz {e : Expr} {es : List Expr} {f : Env → T D} {r : Env → T (List FD)} (h : QE X tb W e f) (hr : QF X tb W es r) (hs : starEach (e :: es) X.env = (false, eval e X.env) :: starEach es X.env := by rfl) : QF X tb W (e :: es) (fCons false f r) := by
  obtain ⟨t1, p1, i1⟩ := h.ex
  obtain ⟨t2, p2, i2⟩ := hr.ex
  refine ⟨_, pa_cons p1 p2 hs, fun g σ env H Q E hw => ?_⟩
  unfold fCons at hw
  rw [T.wp_bind] at hw
  refine i1 g σ env H _ E (T.wp_mono (fun d q v H1 s1 r1 => ?_) (fun _ z => z) hw)
  have E1 := E.step s1
  rw [T.wp_bind] at q
  refine i2 g σ env H1 _ E1 (T.wp_mono (fun ds q vs as H2 s2 E2 fl => ?_) (wpStep s1) q)
  exact q (v :: vs) as H2 (s1.trans s2) E2 ⟨v, vs, rfl, r1.mv (E1.mv s2), FlL.dom s1.dom fl⟩
theorem qf_own {e : Expr} {es : List Expr} {f : Env → T D} {r : Env → T (List FD)} (h : QO X tb W e f) (hr : QF X tb W es r) (hs : starEach (e :: es) X.env = (false, eval e X.env) :: starEach es X.env := by rfl) : QF X tb W (e :: es) (fCons true f r) := by
  obtain ⟨t1, p1, i1⟩ := h.ex
  obtain ⟨t2, p2, i2⟩ := hr.ex
  refine ⟨_, pa_cons p1 p2 hs, fun g σ env H Q E hw => ?_⟩
  unfold fCons at hw
  rw [T.wp_bind] at hw
  refine i1 g σ env H _ E (T.wp_mono (fun d q a H1 s1 E1 n0 h0 hf ro => ?_) (fun _ z => z) hw)
  rw [T.wp_bind] at q
  refine i2 (g.fl a) σ env H1 _ E1 (T.wp_mono (fun ds q vs as H2 s2 E2 fl => ?_) (wpStep s1) q)
  have s2' : Step (pgOf X tb) g.C H1 H2 := s2
  obtain ⟨f1, f2⟩ := FlL.sub s1.dom fl
  rw [Gh.fls_fl] at E2
  exact q (.ref a :: vs) (a :: as) H2 (s1.trans s2') E2 ⟨a, vs, as, rfl, rfl, ro.mv (E1.mv s2) fun o ho ht => s2'.grow a o ho (fun z => n0 (g.hC a z)) ht, ⟨n0, h0, hf⟩, f2, f1⟩

/-! ### names stored at once -/
def slF (x : FD) : Sl := if x.1 then .own x.2 else .frz x.2
def stF : List Nat → List FD → Env → Option Env
  | [], [], env => some env
  | i :: is, x :: ds, env => if i < env.length then stF is ds (env.set i (slF x)) else none
  | _, _, _ => none
def stV : List Nat → List V → St → St
  | i :: is, v :: vs, σ => stV is vs (σ.set i (some v))
  | _, _, σ => σ
theorem stF_len : ∀ {is : List Nat} {ds : List FD} {env env' : Env}, stF is ds env = some env' → ds.length = is.length
  | [], [], _, _, _ => rfl
  | i :: is, x :: ds, env, env', e => by
    simp only [stF] at e
    split at e
    · simp [stF_len e]
    · cases e
  | [], _ :: _, _, _, e => by cases e
  | _ :: _, [], _, _, e => by cases e
theorem stF_ok {p : Pg} {g : Gh} {H0 H : Hp} : ∀ {is : List Nat} {ds : List FD} {vs : List V} {as : List Addr} {σ : St} {env env' : Env}, ER p (g.fls as) σ env H → FlL p g H0 H ds vs as → stF is ds env = some env' → ER p g (stV is vs σ) env' H
  | [], [], vs, as, σ, env, env', E, fl, e => by
    obtain ⟨rfl, rfl⟩ := fl
    cases e
    exact E
  | i :: is, (true, d) :: ds, vs, as, σ, env, env', E, fl, e => by
    obtain ⟨a, ws, bs, rfl, rfl, r, ⟨n0, h0, _⟩, nb, fl⟩ := fl
    simp only [stF] at e
    split at e
    · rename_i hl
      have r' : OwnRep p (g.fls bs).C H d a := by rw [Gh.fls_C]; exact r
      show ER p g (stV is ws (σ.set i (some (.ref a)))) env' H
      exact stF_ok (ER.setO (g := g.fls bs) E hl (fun z => (Gh.fls_N0.mp z).elim n0 nb) (by rw [Gh.fls_H0]; exact h0) r') fl e
    · cases e
  | i :: is, (false, d) :: ds, vs, as, σ, env, env', E, fl, e => by
    obtain ⟨v, ws, rfl, r, fl⟩ := fl
    simp only [stF] at e
    split at e
    · rename_i hl
      have r' : Rep p (g.fls as).C H d v := by rw [Gh.fls_C]; exact r
      show ER p g (stV is ws (σ.set i (some v))) env' H
      exact stF_ok (E.setF hl r') fl e
    · cases e
  | [], _ :: _, _, _, _, _, _, _, _, e => by cases e
  | _ :: _, [], _, _, _, _, _, _, _, e => by cases e
def sParF (is : List Nat) (fa : Env → T (List FD)) : Env → T Fl := fun env => (fa env).bind fun ds => (ofO (stF is ds env)).bind fun e => .ret (.nx e)
theorem fl_two {p : Pg} {g : Gh} {H0 H : Hp} {ds : List FD} {vs : List V} {as : List Addr} (fl : FlL p g H0 H ds vs as) (h : ds.length = 2) : ∃ v w, vs = [v, w] := by
  have := fl.len
  rw [h] at this
  match vs, this with
  | [v, w], _ => exact ⟨v, w, rfl⟩
theorem fl_three {p : Pg} {g : Gh} {H0 H : Hp} {ds : List FD} {vs : List V} {as : List Addr} (fl : FlL p g H0 H ds vs as) (h : ds.length = 3) : ∃ u v w, vs = [u, v, w] := by
  have := fl.len
  rw [h] at this
  match vs, this with
  | [u, v, w], _ => exact ⟨u, v, w, rfl⟩
theorem qs_parF2 {i j : Nat} {x y : Str} {a b : Expr} {px py pt : Pos} {kt k2 pt2} {fa : Env → T (List FD)} (hc : X.calm = true) (hN : X.N.Nodup) (ha : QF X tb W [a, b] fa) (hi : X.N[i]? = some x := by rfl) (hj : X.N[j]? = some y := by rfl) (hij : i ≠ j := by decide)
    (hx : X.env.scope.names.lookup x = some .local := by rfl) (hy : X.env.scope.names.lookup y = some .local := by rfl)
    (hw : swappedStores [.Tuple [.Name x px, .Name y py] kt pt] (.Tuple [a, b] k2 pt2) X.env = pure (some [x, y]) := by rfl)
    (hs : swapsWithSole [.Tuple [.Name x px, .Name y py] kt pt] (.Tuple [a, b] k2 pt2) pos.line X.env = pure false := by rfl) :
    QS X tb W (.Assign [.Tuple [.Name x px, .Name y py] kt pt] (.Tuple [a, b] k2 pt2) pos) (sParF [i, j] fa) := by
  obtain ⟨t, h1, h2⟩ := ha.ex
  refine ⟨_, ps_par hc hN hi hj hij hx hy h1 hw hs, fun g σ env H Dn E hw => ?_⟩
  unfold sParF at hw
  rw [T.wp_bind] at hw
  refine h2 g σ env H _ E (T.wp_mono (fun ds q vs as H' s E' fl => ?_) (xps E) hw)
  cases hst : stF [i, j] ds env with
  | none => rw [hst] at q; exact q.elim
  | some e' =>
    rw [hst] at q
    obtain ⟨v, w, rfl⟩ := fl_two fl (stF_len hst)
    exact ⟨v, w, rfl, q _ H' (stF_ok E' fl hst) (s.s E)⟩
theorem qs_parF3 {i j l : Nat} {x y z : Str} {a b c : Expr} {px py pz pt : Pos} {kt k2 pt2} {fa : Env → T (List FD)} (hc : X.calm = true) (hN : X.N.Nodup) (ha : QF X tb W [a, b, c] fa) (hi : X.N[i]? = some x := by rfl) (hj : X.N[j]? = some y := by rfl) (hl : X.N[l]? = some z := by rfl) (hij : i ≠ j := by decide) (hil : i ≠ l := by decide) (hjl : j ≠ l := by decide)
    (hx : X.env.scope.names.lookup x = some .local := by rfl) (hy : X.env.scope.names.lookup y = some .local := by rfl) (hz : X.env.scope.names.lookup z = some .local := by rfl)
    (hw : swappedStores [.Tuple [.Name x px, .Name y py, .Name z pz] kt pt] (.Tuple [a, b, c] k2 pt2) X.env = pure (some [x, y, z]) := by rfl)
    (hs : swapsWithSole [.Tuple [.Name x px, .Name y py, .Name z pz] kt pt] (.Tuple [a, b, c] k2 pt2) pos.line X.env = pure false := by rfl) :
    QS X tb W (.Assign [.Tuple [.Name x px, .Name y py, .Name z pz] kt pt] (.Tuple [a, b, c] k2 pt2) pos) (sParF [i, j, l] fa) := by
  obtain ⟨t, h1, h2⟩ := ha.ex
  refine ⟨_, ps_par3 hc hN hi hj hl hij hil hjl hx hy hz h1 hw hs, fun g σ env H Dn E hw => ?_⟩
  unfold sParF at hw
  rw [T.wp_bind] at hw
  refine h2 g σ env H _ E (T.wp_mono (fun ds q vs as H' s E' fl => ?_) (xps E) hw)
  cases hst : stF [i, j, l] ds env with
  | none => rw [hst] at q; exact q.elim
  | some e' =>
    rw [hst] at q
    obtain ⟨u, v, w, rfl⟩ := fl_three fl (stF_len hst)
    exact ⟨u, v, w, rfl, q _ H' (stF_ok E' fl hst) (s.s E)⟩

/-! ### targets that may take what floats -/
def Kp (g : Gh) (H H' : Hp) : Prop := ∀ b u, g.N0 b → ¬ g.C b → H b = some u → (∀ ps, u ≠ .tbl ps) → H' b = some u
/-- x lies as v, g' is the ghost with it -/
def Fl1 (p : Pg) (g : Gh) (H : Hp) (x : FD) (v : V) (g' : Gh) : Prop :=
  (x.1 = true ∧ ∃ a, v = .ref a ∧ g' = g.fl a ∧ OwnRep p g.C H x.2 a ∧ ¬ g.N0 a ∧ ¬ Ob g.H0 a) ∨ (x.1 = false ∧ g' = g ∧ Rep p g.C H x.2 v)
structure QGF (X : Cx) (tb : Tb) (tg : Expr) (f : FD → Env → Option Env) : Prop where
  ex : ∃ gt, PG X tg gt ∧ ∀ g g' σ env H (Q : St → Hp → Prop) x v env', Fl1 (pgOf X tb) g H x v g' → ER (pgOf X tb) g' σ env H → f x env = some env' →
    (∀ σ' H', ER (pgOf X tb) g σ' env' H' → SStep H H' → Kp g H H' → Q σ' H') → gt v σ H Q
structure QGFs (X : Cx) (tb : Tb) (tgs : List Expr) (n : Nat) (f : List FD → Env → Option Env) : Prop where
  ex : ∃ gt, PGs X tgs gt ∧ ∀ g as σ env H0 H (Q : St → Hp → Prop) xs vs env', FlL (pgOf X tb) g H0 H xs vs as → ER (pgOf X tb) (g.fls as) σ env H → f xs env = some env' →
    (∀ σ' H', ER (pgOf X tb) g σ' env' H' → SStep H H' → Q σ' H') → gt vs σ H Q
  ln : ∀ xs env e', f xs env = some e' → xs.length = n
def gfName (i : Nat) : FD → Env → Option Env := fun x env => if i < env.length then some (env.set i (slF x)) else none
theorem qgf_name {i : Nat} {x : Str} (hN : X.N.Nodup) (hi : X.N[i]? = some x := by rfl) (hx : Loc X.env.scope x := by first | exact Or.inl rfl | exact Or.inr rfl) (hf : X.fn x = true ∨ X.env.scope.names.lookup x = some .local := by first | exact .inl rfl | exact .inr rfl | assumption) : QGF X tb (.Name x pos) (gfName i) := by
  refine ⟨_, pg_name hN hi hx hf, fun g g' σ env H Q x v env' fl E hw q => ?_⟩
  unfold gfName at hw
  split at hw
  · rename_i hl
    cases hw
    obtain ⟨b, d⟩ := x
    rcases fl with ⟨h, a, rfl, rfl, r, n0, h0⟩ | ⟨h, rfl, r⟩
    · have : b = true := h
      subst this
      exact q _ H (E.setO hl n0 h0 r) .refl fun _ _ _ _ h _ => h
    · have : b = false := h
      subst this
      exact q _ H (E.setF hl r) .refl fun _ _ _ _ h _ => h
  · cases hw
def gfsNil : List FD → Env → Option Env
  | [], env => some env
  | _, _ => none
def gfsCons (f : FD → Env → Option Env) (h : List FD → Env → Option Env) : List FD → Env → Option Env
  | x :: xs, env => (f x env).bind fun e => h xs e
  | [], _ => none
theorem qgfs_nil : QGFs X tb [] 0 gfsNil where
  ex := ⟨_, pgs_nil, fun g as σ env H0 H Q xs vs env' fl E hw q => by
    cases xs with
    | nil =>
      obtain ⟨rfl, rfl⟩ := fl
      cases hw
      exact ⟨rfl, q σ H E .refl⟩
    | cons => cases hw⟩
  ln := fun xs env e' hw => by
    cases xs with
    | nil => rfl
    | cons => cases hw
theorem qgfs_cons {tg : Expr} {es : List Expr} {n : Nat} {f : FD → Env → Option Env} {h : List FD → Env → Option Env} (h1 : QGF X tb tg f) (h2 : QGFs X tb es n h) (hs : (assignEach (tg :: es) X.env).map (·.2) = assign tg X.env :: (assignEach es X.env).map (·.2) := by rfl) : QGFs X tb (tg :: es) (n + 1) (gfsCons f h) where
  ex := by
    obtain ⟨t1, a1, b1⟩ := h1.ex
    obtain ⟨t2, a2, b2⟩ := h2.ex
    refine ⟨_, pgs_cons a1 a2 hs, fun g as σ env H0 H Q xs vs env' fl E hw q => ?_⟩
    cases xs with
    | nil => cases hw
    | cons x xs =>
      simp only [gfsCons, Option.bind_eq_some_iff] at hw
      obtain ⟨e1, hw1, hw2⟩ := hw
      obtain ⟨v, ws, bs, rfl, f1, f2⟩ : ∃ v ws bs, vs = v :: ws ∧ Fl1 (pgOf X tb) (g.fls bs) H x v (g.fls as) ∧ FlL (pgOf X tb) g H0 H xs ws bs := by
        obtain ⟨b, d⟩ := x
        cases b with
        | true =>
          obtain ⟨a, ws, bs, rfl, rfl, r, ⟨n0, h0, _⟩, nb, fl⟩ := fl
          exact ⟨_, ws, bs, rfl, .inl ⟨rfl, a, rfl, rfl, by rw [Gh.fls_C]; exact r, fun z => (Gh.fls_N0.mp z).elim n0 nb, by rw [Gh.fls_H0]; exact h0⟩, fl⟩
        | false =>
          obtain ⟨v, ws, rfl, r, fl⟩ := fl
          exact ⟨v, ws, as, rfl, .inr ⟨rfl, rfl, by rw [Gh.fls_C]; exact r⟩, fl⟩
      refine ⟨v, ws, rfl, b1 (g.fls bs) (g.fls as) σ env H _ x v e1 f1 E hw1 fun σ1 H1 E1 s1 k1 => ?_⟩
      have fl' : FlL (pgOf X tb) g H0 H1 xs ws bs := FlL.kept s1.mv (fun b u hb hn hu ht => k1 b u (Gh.fls_N0.mpr (.inr hb)) (by rw [Gh.fls_C]; exact fun z => hn (g.hC b z)) hu ht) f2
      exact b2 g bs σ1 e1 H0 H1 Q xs ws env' fl' E1 hw2 fun σ2 H2 E2 s2 => q σ2 H2 E2 (s1.trans s2)
  ln := fun xs env e' hw => by
    cases xs with
    | nil => cases hw
    | cons x xs =>
      simp only [gfsCons, Option.bind_eq_some_iff] at hw
      obtain ⟨e1, hw1, hw2⟩ := hw
      simp [h2.ln xs e1 e' hw2]
def sAsgF (tgt : List FD → Env → Option Env) (fa : Env → T (List FD)) : Env → T Fl := fun env => (fa env).bind fun ds => (ofO (tgt ds env)).bind fun e => .ret (.nx e)
theorem qs_asgF {tgs es : List Expr} {n : Nat} {pt pt2 : Pos} {kt k2} {tgt : List FD → Env → Option Env} {fa : Env → T (List FD)} (hc : X.calm = true) (ha : QF X tb W es fa) (hg : QGFs X tb tgs n tgt) (hz : n ≤ 100 := by decide)
    (hn : (assignEach tgs X.env).length = n := by rfl) (hst : (assignEach tgs X.env).findIdx? (·.1) = none := by rfl)
    (hs : swapsWithSole [.Tuple tgs kt pt] (.Tuple es k2 pt2) pos.line X.env = pure false := by rfl) (hw : swappedStores [.Tuple tgs kt pt] (.Tuple es k2 pt2) X.env = pure none := by rfl) (hq : (assignEach [.Tuple tgs kt pt] X.env).map (·.2) = [assign (.Tuple tgs kt pt) X.env] := by rfl) :
    QS X tb W (.Assign [.Tuple tgs kt pt] (.Tuple es k2 pt2) pos) (sAsgF tgt fa) := by
  obtain ⟨t, h1, h2⟩ := ha.ex
  obtain ⟨gt, g1, g2⟩ := hg.ex
  refine ⟨_, ps_asg (pe_tup h1) (pg_tup (n := n) hc g1 hn hst) hs hw hq, fun g σ env H Dn E hw => ?_⟩
  unfold sAsgF at hw
  rw [T.wp_bind] at hw
  refine h2 g σ env H _ E (T.wp_mono (fun ds q vs as H1 s1 E1 fl => ?_) (xps E) hw)
  cases hst : tgt ds env with
  | none => rw [hst] at q; exact q.elim
  | some e' =>
    rw [hst] at q
    have hln := hg.ln _ _ _ hst
    have hl : vs.length = n := by rw [fl.len, hln]
    refine ⟨by rw [hl, size16]; omega, fun p hp => ?_⟩
    have Ea := E.step s1
    have st := Ea.alloc (o := .tup vs) hp
    have st' : Step (pgOf X tb) (g.fls as).C H1 (upd H1 p (.tup vs)) := by rw [Gh.fls_C]; exact st
    have E2 := E1.step st'
    have fl2 := FlL.step Ea st fl
    refine ⟨p, vs, rfl, .of upd_same, hl, ?_⟩
    exact g2 g as σ env H _ _ ds vs e' fl2 E2 hst fun σ' H' E' s' => q σ' H' E' (((s1.trans st).s E).trans s')
/-! ### x[k] as such a target -/
def getT {α : Type} : T α → Option α
  | .ret a => some a
  | _ => none
theorem getT_wp {α : Type} {t : T α} {a : α} (h : getT t = some a) {Q : α → Prop} {E : Ex → Prop} (q : Q a) : t.wp Q E := by
  cases t with
  | ret b => cases h; exact q
  | _ => cases h
def gfPut (i : Nat) (fk : Env → T D) : FD → Env → Option Env := fun x env => (getT (fk env)).bind fun k => if isK k then (if x.1 then (match as2 env[i]? with
    | some kvs => if kvs.length < 16777216 then some (env.set i (.own2 (.dic (putD k x.2 kvs)))) else none
    | none => none) else (match env[i]? with
    | some (.own (.dic kvs)) => if kvs.length < 16777216 then some (env.set i (.own (.dic (putD k x.2 kvs)))) else none
    | _ => none)) else none
theorem qgf_put (i : Nat) {x : Str} {ek : Expr} {fk : Env → T D} {p1 p2 : Pos} (hu : X.A.units + 65 < cLine) (hk : QP X tb W ek fk) (hN : X.N[i]? = some x := by rfl) (hvis : Vis X.env.scope x := by first | exact Or.inl rfl | exact Or.inr (Or.inl rfl) | exact Or.inr (Or.inr rfl))
    (hd : (x == ("__debug__" : Str)) = false := by decide) (hcd : (x == ("__classdict__" : Str)) = false := by decide)
    (ha : ∀ v, assign (.Subscript (.Name x p1) ek p2) X.env v = (do
      let ov ← holding [v] (eval (.Name x p1) X.env)
      let iv ← holding [v, ov] (eval ek X.env)
      standAt p2
      holding [v, ov, iv] (setItem ov iv v)
      release [v, ov, iv] []) := by intro _; rfl) :
    QGF X tb (.Subscript (.Name x p1) ek p2) (gfPut i fk) := by
  obtain ⟨t1, p1', i1⟩ := hk.ex
  refine ⟨_, pg_sub (pe_var (i := i) hN hvis hd hcd) p1' (set_dict (by omega)) ha, fun g g' σ env H Q y v env' fl E hw q => ?_⟩
  unfold gfPut at hw
  simp only [Option.bind_eq_some_iff] at hw
  obtain ⟨k, hk, hw⟩ := hw
  split at hw
  rotate_left
  · cases hw
  rename_i hik
  obtain ⟨b, d⟩ := y
  rcases fl with ⟨hb, c, rfl, rfl, rd, n0, h0⟩ | ⟨hb, rfl, rd⟩
  · have : b = true := hb
    subst this
    simp only [if_true] at hw
    split at hw
    rotate_left
    · cases hw
    rename_i kvs he
    split at hw
    rotate_left
    · cases hw
    rename_i hlen
    cases hw
    obtain ⟨E1, he1⟩ := E.as2 he
    obtain ⟨a, bs, hs, nd, r0⟩ := E1.slot i _ he1
    refine ⟨.ref a, hs, i1 (g.fl c) σ env H _ E (getT_wp hk fun vk H2 s2 r2 => ?_)⟩
    have s2' : Step (pgOf X tb) g.C H H2 := s2
    have E2 := E1.step s2
    have m2 := E.mv s2
    obtain ⟨a', bs', hs', nd', kws, ea, la, ra⟩ := E2.slot i _ he1
    rw [hs] at hs'; cases hs'
    have rk := rep_key hik r2
    obtain ⟨kk, rfl⟩ := rk.key hik
    have hat : ∀ b ∈ a :: bs', OwnAt σ (env.set i (.own2 (.dic kvs))) H2 i b := fun b hb => by
      refine .inr ⟨⟨_, he1⟩, a, hs, ?_⟩
      rcases List.mem_cons.mp hb with z | z
      · exact .inl z
      · exact .inr (.inr (.inl ((ra.inner b).mpr z |>.elim fun k hk => ⟨kws, k, ea, hk⟩)))
    have hcn : c ∉ a :: bs' := fun z => (E2.fresh i c (hat c z)).1 (.inr rfl)
    have ha0 := (E2.fresh i a (hat a List.mem_cons_self)).1
    simp only [List.mem_cons, not_or] at hcn
    have nd2 := List.nodup_cons.mp nd'
    have rd2 : OwnRep (pgOf X tb) g.C H2 d c := rd.mv m2 fun o ho ht => s2'.grow c o ho (fun z => n0 (g.hC c z)) ht
    have hz : kws.length < sizeLine := by rw [ra.len, size16]; exact hlen
    obtain ⟨bs2, q1, q2, q3⟩ := OwnK.put rk rd2 la.2 nd2.2 hcn.2 ra
    have anb : a ∉ bs2 := fun z => by
      rcases q3 a z with w | w
      · exact nd2.1 w
      · exact hcn.1 w.symm
    obtain ⟨E3, S3⟩ := ER.wr2 (g := g) (g' := g.fl c) (x := a) (o := .dK (putK kws kk (.ref c))) (d' := .dic (putD k d kvs)) (bs := bs') (bs' := bs2) E2 rfl rfl (fun _ z => .inl z) he1 hs ⟨kws, ea, la, ra⟩ List.mem_cons_self trivial (List.nodup_cons.mpr ⟨anb, q2⟩)
      (fun b hb => (q3 b hb).imp id fun w => by rw [w]; exact ⟨.inr rfl, n0, h0⟩)
      (fun m => ⟨_, upd_same, ⟨by have := putD_len (k := k) (v := d) (kvs := kvs); rw [size16]; omega, nodK_put la.2⟩, q1.mv m fun b hb o ho _ => by rw [upd_ne (fun z => anb (by rw [← z]; exact hb))]; exact ho⟩)
    refine ⟨a, _, rfl, .inl ⟨kws, kk, ea, rfl, hz, rfl⟩, ?_⟩
    rw [List.set_set] at E3
    refine q σ _ E3 ((s2'.s E.sink).trans S3) fun b u hb hn hu ht => ?_
    rw [upd_ne (fun z => ha0 (.inl (by rw [← z]; exact hb)))]
    exact s2'.grow b u hu hn ht
  · have : b = false := hb
    subst this
    simp only [Bool.false_eq_true, if_false] at hw
    split at hw
    rotate_left
    · cases hw
    rename_i kvs he
    split at hw
    rotate_left
    · cases hw
    rename_i hlen
    cases hw
    obtain ⟨a, hs, vs, ea, la, ra⟩ := E.slot i _ he
    have hoi : OwnAt σ env H i a := .inl ⟨⟨_, he⟩, hs⟩
    refine ⟨.ref a, hs, i1 g' σ env H _ E (getT_wp hk fun vk H2 s2 r2 => ?_)⟩
    have E2 := E.step s2
    have m2 := E.mv s2
    have ea2 : H2 a = some (.dK vs) := by rw [E.at_step s2 hoi]; exact ea
    have rk := rep_key hik r2
    obtain ⟨kk, rfl⟩ := rk.key hik
    have ra2 := RepK.mv m2 ra
    have hz : vs.length < sizeLine := by rw [ra.len, size16]; exact hlen
    have new : Mv H2 (upd H2 a (.dK (putK vs kk v))) → OwnRep (pgOf X tb) g'.C (upd H2 a (.dK (putK vs kk v))) (.dic (putD k d kvs)) a := fun m =>
      ⟨_, upd_same, ⟨by have := putD_len (k := k) (v := d) (kvs := kvs); rw [size16]; omega, nodK_put la.2⟩, RepK.mv m (RepK.put rk (rd.mv m2) la.2 ra2)⟩
    refine ⟨a, _, rfl, .inl ⟨vs, kk, ea2, rfl, hz, rfl⟩, ?_⟩
    refine q σ _ (E2.write he hs (fun _ => by simp) new) ((s2.s E).trans (E2.objStep (.inl ⟨⟨_, he⟩, hs⟩) trivial)) fun b u hb hn hu ht => ?_
    rw [upd_ne (fun z => (E.fresh i a hoi).1 (by rw [← z]; exact hb))]
    exact s2.grow b u hu hn ht
end
end MM

namespace MM
open PySem PySem.Spec L2 PyProof.Rows

/-! ### len(set(xs)) of ints -/
def intsD : List D → Option (List Int)
  | [] => some []
  | .int n :: r => (intsD r).map (n :: ·)
  | _ :: _ => none
def addNew (s : List Int) (k : Int) : List Int := if s.any (· == k) then s else s ++ [k]
def lenSetD (x : D) : Option D := match x with
  | .lst xs => (intsD xs).bind fun ns => if ns.length ≤ 4000 then some (.int ((ns.foldl addNew []).length : Nat)) else none
  | _ => none
theorem intsD_rep {p : Pg} {C : Addr → Prop} {H : Hp} : ∀ {xs : List D} {ns : List Int} {vs : List V}, intsD xs = some ns → RepL p C H xs vs → vs = ns.map V.int
  | [], ns, vs, h, r => by
    cases h
    simp only [RepL] at r
    exact r
  | x :: xs, ns, vs, h, r => by
    simp only [RepL] at r
    obtain ⟨v, ws, rfl, r1, r2⟩ := r
    cases x with
    | int n =>
      simp only [intsD, Option.map_eq_some_iff] at h
      obtain ⟨ms, h1, rfl⟩ := h
      have r1 : v = .int n := by simpa only [Rep] using r1
      subst r1
      rw [intsD_rep h1 r2]
      rfl
    | _ => cases h
theorem firstMet_fold (ns : List Int) : PyProof.Rows.firstMet (fun i => ns.getD i 0) ns.length = ns.foldl addNew [] := by
  unfold PyProof.Rows.firstMet
  have e : (List.range ns.length).map (fun i => ns.getD i 0) = ns := by
    apply List.ext_getElem
    · simp
    · intro i h1 h2
      simp only [List.getElem_map, List.getElem_range, List.getD_eq_getElem?_getD, List.getElem?_eq_getElem h2, Option.getD_some]
  rw [e]
  rfl
def tLenSet (ta : TE) : TE := fun σ H Q => ta σ H fun x H1 => ∃ (l : Addr) (ns : List Int), x = .ref l ∧ Rd H1 l (.lst (ns.map V.int)) ∧ ns.length ≤ 4000 ∧ Q (.int ((ns.foldl addNew []).length : Nat)) H1
section
variable {X : Cx} {tb : Tb} {W : WX} {pos : Pos}
theorem pe_lenSet {a : Expr} {ta : TE} {p p2 q pos : Pos} (hc : X.calm = true) (gl : Gl X "len") (ml : X.mg "len" = none) (gs : Gl X "set") (ms : X.mg "set" = none) (ha : PE X a ta)
    (na : starEach [a] X.env = (false, eval a X.env) :: starEach [] X.env := by rfl) : PE X (.Call (.Name "len" p) [.Call (.Name "set" p2) [a] [] q] [] pos) (tLenSet ta) := by
  refine ⟨fun pins s0 σ H Q I h => ?_⟩
  refine Call_ (ld_blt I gl ml boot_len ?_)
  refine PyProof.Rows.callWith_builtin1 (PyProof.Rows.args_cons (Call_ (ld_blt I gs ms boot_set ?_)) rfl) rfl rfl
  refine PyProof.Rows.callWith_type1 (PyProof.Rows.args_cons (thn (ha.run pins s0 σ H _ I h) fun u s2 ⟨x, Ha, Ia, ra, qa⟩ => PyProof.Rows.args_nil ?_) na) na rfl
  obtain ⟨l, ns, rfl, hq, hz, qa⟩ := qa
  cases ra
  obtain ⟨its, rv, pl, _⟩ := Ia.list (.inl hq)
  have sz : its.toArray.size = ns.length := by rw [List.size_toArray, ← rv.length, List.length_map]
  refine PySem.call_set_list (Ia.ok.hd hc) pl.isList (by simpa using RZ.intsAre_vals rv) (by rw [sz]; unfold scanBound; omega) fun g tk hS hk => PyProof.Rows.args_nil ?_
  have le := PyProof.Rows.firstMet_length_le (fun i => ns.getD i 0) ns.length
  rw [sz, firstMet_fold] at hS
  rw [firstMet_fold] at le
  obtain ⟨o, es, ep, t, ho, hex, hd, _, _, _, hf, hn⟩ := hS
  have Ib : Inv X pins σ Ha { s2 with heap := g, toks := tk } := Ia.kept fun b o e => hk b o (Heap.lt_size e) e
  exact call_len_set ho hex hd hf (by rw [hn]; omega) ⟨.int ((ns.foldl addNew []).length : Nat), Ha, Ib.tok _, ⟨_, by rw [hn]⟩, qa⟩
theorem qe_lenSet {a : Expr} {p p2 q : Pos} {f : Env → T D} (hc : X.calm = true) (gl : Gl X "len") (ml : X.mg "len" = none) (gs : Gl X "set") (ms : X.mg "set" = none) (ha : QP X tb W a f)
    (na : starEach [a] X.env = (false, eval a X.env) :: starEach [] X.env := by rfl) : QE X tb W (.Call (.Name "len" p) [.Call (.Name "set" p2) [a] [] q] [] pos) (e1 lenSetD f) := by
  obtain ⟨t, p1, i1⟩ := ha.ex
  refine ⟨_, pe_lenSet hc gl ml gs ms p1 na, fun g σ env H Q E hw => ?_⟩
  unfold e1 at hw
  rw [T.wp_bind] at hw
  refine i1 g σ env H _ E (T.wp_mono (fun x q v H1 s1 r1 => ?_) (fun _ z => z) hw)
  cases hx : lenSetD x with
  | none => rw [hx] at q; exact q.elim
  | some d =>
    rw [hx] at q
    unfold lenSetD at hx
    split at hx
    · simp only [Option.bind_eq_some_iff] at hx
      obtain ⟨ns, h1, h2⟩ := hx
      split at h2
      · rename_i hl
        cases h2
        obtain ⟨a, vs, rfl, _, ea, la, ra⟩ := r1
        have := intsD_rep h1 ra
        subst this
        exact ⟨a, ns, rfl, ea, hl, q _ H1 s1 (by simp [Rep])⟩
      · cases h2
    · cases hx
/-! ### [..] * n -/
def repD (x y : D) : Option D := match x, y with
  | .lst xs, .int k => if k ≤ 16777216 && 0 ≤ k && xs.length * k.toNat ≤ 16777216 then some (.lst (List.replicate k.toNat xs).flatten) else none
  | _, _ => none
theorem RepL.repF {p : Pg} {C : Addr → Prop} {H : Hp} {xs : List D} {vs : List V} (r : RepL p C H xs vs) : ∀ k : Nat, RepL p C H (List.replicate k xs).flatten (List.replicate k vs).flatten
  | 0 => by simp [RepL]
  | k + 1 => by
    simp only [List.replicate_succ, List.flatten_cons]
    exact r.app (RepL.repF r k)
theorem qo_rep {a b : Expr} {fa fb : Env → T D} (ha : QO X tb W a fa) (hb : QP X tb W b fb) : QO X tb W (.BinOp a .Mult b pos) (e2 repD fa fb) := by
  obtain ⟨t1, p1, i1⟩ := ha.ex
  obtain ⟨t2, p2, i2⟩ := hb.ex
  refine ⟨_, pe_op op_rep p1 p2, fun g σ env H Q E hw => ?_⟩
  unfold e2 at hw
  rw [T.wp_bind] at hw
  refine i1 g σ env H _ E (T.wp_mono (fun x q l H1 s1 E1 n0 h0 hf rx => ?_) (fun _ z => z) hw)
  rw [T.wp_bind] at q
  refine i2 (g.fl l) σ env H1 _ E1 (T.wp_mono (fun y q vy H2 s2 ry => ?_) (wpStep s1) q)
  have s2' : Step (pgOf X tb) g.C H1 H2 := s2
  have rx2 : OwnRep (pgOf X tb) g.C H2 x l := rx.mv (E1.mv s2) fun o ho ht => s2'.grow l o ho (fun z => n0 (g.hC l z)) ht
  cases hx : repD x y with
  | none => rw [hx] at q; exact q.elim
  | some d =>
    rw [hx] at q
    unfold repD at hx
    split at hx
    · rename_i xs k
      split at hx
      · rename_i hk
        simp only [Bool.and_eq_true, decide_eq_true_eq] at hk
        cases hx
        simp only [RepP, Rep] at ry
        subst ry
        obtain ⟨vs, el, ll, rl⟩ := rx2
        have E2 := (E1.step s2).sink
        have s12 := s1.trans s2'
        refine ⟨l, k, vs, rfl, rfl, el, by omega, by omega, by rw [rl.length, size16]; exact hk.2, fun p hp => ?_⟩
        obtain ⟨m0, k0⟩ := E2.free0 hp
        refine q p _ (s12.trans (E2.alloc hp)) (E2.float hp) m0 k0 (s12.free hp) ⟨_, upd_same, ?_, (rl.repF k.toNat).mv (E2.mvFloat hp)⟩
        rw [PyProof.Rows.lm_len_rep_flat, Nat.mul_comm, size16]
        exact hk.2
      · cases hx
    · cases hx
end
end MM

namespace MM
open PySem PySem.Spec L2
/-! ### < of ints or texts, is of truth values -/
def ltD : D → D → Option D
  | .int i, .int j => some (.bl (decide (i < j)))
  | .str s, .str t => some (.bl (ltN s t))
  | _, _ => none
def isBD : D → D → Option D
  | .bl a, .bl b => some (.bl (a == b))
  | _, _ => none
def notBD : D → D → Option D
  | .bl a, .bl b => some (.bl (!(a == b)))
  | _, _ => none
section
variable {X : Cx} {tb : Tb} {W : WX} {pos : Pos}
theorem cm_ltS : CmpOk X tb .Lt ltD := ⟨_, OpR.or op_lt op_lt_str, fun g σ env H Q x y vx vy d E rx ry e q => by
  unfold ltD at e
  split at e
  · cases e
    simp only [RepP, Rep] at rx ry
    exact .inl ⟨_, _, rx, ry, q _ H E.refl repB⟩
  · rename_i s t
    cases e
    simp only [RepP, Rep] at rx ry
    refine .inr ⟨_, _, rx.1, ry.1, q _ H E.refl ?_⟩
    simp only [Rep]
    rw [ltN_eq]
  · cases e⟩
theorem beq_dec (a b : Bool) : (a == b) = decide (a = b) := by cases a <;> cases b <;> rfl
theorem cm_isB : CmpOk X tb .Is isBD := ⟨_, op_isBl, fun g σ env H Q x y vx vy d E rx ry e q => by
  unfold isBD at e
  split at e
  · rename_i a b
    cases e
    simp only [RepP, Rep] at rx ry
    exact ⟨a, b, rx, ry, q _ H E.refl (by rw [beq_dec]; exact repB)⟩
  · cases e⟩
theorem cm_notB : CmpOk X tb .IsNot notBD := ⟨_, op_notBl, fun g σ env H Q x y vx vy d E rx ry e q => by
  unfold notBD at e
  split at e
  · rename_i a b
    cases e
    simp only [RepP, Rep] at rx ry
    exact ⟨a, b, rx, ry, q _ H E.refl (by rw [beq_dec]; exact repB)⟩
  · cases e⟩
end
/-! ### a def whose code is known; the law as a maker -/
section
variable {P : Program} {w : World} {K : PySem.W.Frag} {mg : Str → Option Value} {base : Heap}
theorem fun_okC {x qual : Str} {st : Stmt} {f c : Addr} {fd : FuncData} {N ps : List Str} {k : Nat} {sp : Sp} (F : Fun K x qual st f fd) (hc : fd.code = .ref c) (S : FnScope N ps (defScope st)) (len : ∀ vs H Q E, sp vs H Q E → vs.length = ps.length)
    (hbody : ∀ (A : Around) (outer : List PySem.Env) (s : Shared) (H : Hp) (vs : List V) (Q : VK) (E : XK), Room k (A.deeper (PyProof.Rows.envOfC qual (defScope st) s.heap.objs.size f (.ref c))) → sp vs H Q E →
      ∃ t, PSs (cxOf (L2.CX P w) P w K mg base N qual (defScope st) f (.ref c) A outer s H E) (defBody st) t ∧ t { nx := fun _ H' => Q .non H', rt := Q } (L2.start N vs) H) : FnOk P w K mg base (L2.CX P w) (k + 1) f fd ps sp := by
  obtain ⟨oc, od, kV, doc, pm, an, cdv, ct, osl, e, lk, hcd⟩ := F.ex
  subst e
  have hc : cdv = .ref c := hc
  subst hc
  exact fn_of lk hcd S len hbody
theorem code_ref {x qual : Str} {st : Stmt} {f : Addr} {fd : FuncData} (F : Fun K x qual st f fd) : ∃ c, fd.code = .ref c := by
  obtain ⟨oc, od, kV, doc, pm, an, cdv, ct, osl, e, lk, hcd⟩ := F.ex
  obtain ⟨c', hc⟩ := He.codeIn_ref hcd
  subst e
  exact ⟨c', hc⟩
theorem code_at {x qual : Str} {st : Stmt} {fd : FuncData} (F : Fun K x qual st (He.fAd K (x, none)) fd) : fd.code = .ref (He.cT K (x, none)).1 := by
  obtain ⟨oc, od, kV, doc, pm, an, cdv, ct, osl, e, lk, hcd⟩ := F.ex
  obtain ⟨c', hc⟩ := He.codeIn_ref hcd
  subst e
  have e1 : He.codeOf K (x, none) = c' := He.codeOf_eq (p := (x, none)) lk hc
  show cdv = .ref (He.codeOf K (x, none))
  rw [e1, hc]
theorem key_of {x y : Str} {st : Stmt} {N : List Str} {k : Nat} (d : DefAt K mg x st [y]) (S : FnScope N [y] (defScope st)) (hk : k < 4096) (hb : keyBody st y k) (hy : (defScope st).names.lookup y = some .local) (hdb : (y == ("__debug__" : Str)) = false) : KeyAt K mg x k := by
  obtain ⟨f, fd, F, g, b⟩ := d
  exact ⟨f, fd, y, x, st, N, F, g, S, b, hk, hb, hy, hdb⟩
end
end MM

namespace MM
open PySem PySem.Spec L2

/-! ### a call that is lent a thing of one's own -/
/-- arguments, of which those told true are the thing at a -/
def LnL (p : Pg) (C : Addr → Prop) (H : Hp) (a : Addr) (o : D) : List FD → List V → Prop
  | [], vs => vs = []
  | (true, d) :: ds, vs => ∃ ws, vs = .ref a :: ws ∧ d = o ∧ LnL p C H a o ds ws
  | (false, d) :: ds, vs => ∃ v ws, vs = v :: ws ∧ Rep p C H d v ∧ LnL p C H a o ds ws
theorem LnL.mv {p : Pg} {C : Addr → Prop} {H H' : Hp} {a : Addr} {o : D} (m : Mv H H') : ∀ {ds : List FD} {vs : List V}, LnL p C H a o ds vs → LnL p C H' a o ds vs
  | [], _, h => h
  | (true, d) :: ds, _, h => by
    obtain ⟨ws, e, e2, q⟩ := h
    exact ⟨ws, e, e2, LnL.mv m q⟩
  | (false, d) :: ds, _, h => by
    obtain ⟨v, ws, e, r, q⟩ := h
    exact ⟨v, ws, e, r.mv m, LnL.mv m q⟩
theorem LnL.rep {p : Pg} {C : Addr → Prop} {H : Hp} {a : Addr} {o : D} (r0 : Rep p C H o (.ref a)) : ∀ {ds : List FD} {vs : List V}, LnL p C H a o ds vs → RepL p C H (ds.map (·.2)) vs
  | [], _, h => by simp only [List.map_nil, RepL]; exact h
  | (true, d) :: ds, _, h => by
    obtain ⟨ws, rfl, rfl, q⟩ := h
    simp only [List.map_cons, RepL]
    exact ⟨_, ws, rfl, r0, LnL.rep r0 q⟩
  | (false, d) :: ds, _, h => by
    obtain ⟨v, ws, rfl, r, q⟩ := h
    simp only [List.map_cons, RepL]
    exact ⟨v, ws, rfl, r, LnL.rep r0 q⟩
def ownV : Option Sl → Option D
  | some (.own d) => some d
  | _ => none
def ImpL (p : Pg) (W : WX) (i : Nat) (t : TA) (f : Env → T (List FD)) : Prop := ∀ g σ env H (Q : List V → Hp → Prop) a o, ER p g σ env H → env[i]? = some (.own o) → σ[i]? = some (some (.ref a)) →
  (f env).wp (fun ds => ∀ vs H', Step p g.C H H' → LnL p g.C H' a o ds vs → Q vs H') (XP p g σ H W) → t σ H Q
structure QL (X : Cx) (tb : Tb) (W : WX) (i : Nat) (es : List Expr) (f : Env → T (List FD)) : Prop where
  ex : ∃ t, PA X es t ∧ ImpL (pgOf X tb) W i t f
def lVar (i : Nat) (r : Env → T (List FD)) : Env → T (List FD) := fun env => match env[i]? with
  | some (.own d) => (r env).bind fun ds => .ret ((true, d) :: ds)
  | _ => .bad
section
variable {X : Cx} {tb : Tb} {W : WX} {pos : Pos}
theorem ql_nil {i : Nat} : QL X tb W i [] fNil := ⟨_, pa_nil, fun g σ env H Q a o E h1 h2 hw => hw [] H E.refl rfl⟩
theorem ql_cons {i : Nat} {e : Expr} {es : List Expr} {f : Env → T D} {r : Env → T (List FD)} (h : QE X tb W e f) (hr : QL X tb W i es r) (hs : starEach (e :: es) X.env = (false, eval e X.env) :: starEach es X.env := by rfl) : QL X tb W i (e :: es) (fCons false f r) := by
  obtain ⟨t1, p1, i1⟩ := h.ex
  obtain ⟨t2, p2, i2⟩ := hr.ex
  refine ⟨_, pa_cons p1 p2 hs, fun g σ env H Q a o E h1 h2 hw => ?_⟩
  unfold fCons at hw
  rw [T.wp_bind] at hw
  refine i1 g σ env H _ E (T.wp_mono (fun d q v H1 s1 r1 => ?_) (fun _ z => z) hw)
  have E1 := E.step s1
  rw [T.wp_bind] at q
  refine i2 g σ env H1 _ a o E1 h1 h2 (T.wp_mono (fun ds q vs H2 s2 fl => ?_) (wpStep s1) q)
  exact q (v :: vs) H2 (s1.trans s2) ⟨v, vs, rfl, r1.mv (E1.mv s2), fl⟩
theorem ql_var {i : Nat} {x : Str} {p : Pos} {es : List Expr} {r : Env → T (List FD)} (hr : QL X tb W i es r) (hN : X.N[i]? = some x := by rfl) (hv : Vis X.env.scope x := by first | exact Or.inl rfl | exact Or.inr (Or.inl rfl) | exact Or.inr (Or.inr rfl)) (hd : (x == ("__debug__" : Str)) = false := by decide)
    (hcd : (x == ("__classdict__" : Str)) = false := by decide) (hs : starEach (.Name x p :: es) X.env = (false, eval (.Name x p) X.env) :: starEach es X.env := by rfl) : QL X tb W i (.Name x p :: es) (lVar i r) := by
  obtain ⟨t2, p2, i2⟩ := hr.ex
  refine ⟨_, pa_cons (pe_var (i := i) hN hv hd hcd) p2 hs, fun g σ env H Q a o E h1 h2 hw => ?_⟩
  unfold lVar at hw
  rw [h1] at hw
  dsimp only at hw
  rw [T.wp_bind] at hw
  refine ⟨.ref a, h2, ?_⟩
  refine i2 g σ env H _ a o E h1 h2 (T.wp_mono (fun ds q vs H2 s2 fl => ?_) (fun _ z => z) hw)
  exact q (.ref a :: vs) H2 s2 ⟨vs, rfl, rfl, fl⟩
/-- the call, the thing at d locked while it runs -/
theorem pe_callLk {CX : CXT} {k : Nat} {f : Addr} {fd : FuncData} {ps : List Str} {sp : Sp} {Ec : St → XK} {x : Str} {p : Pos} {e : Expr} {es : List Expr} {t : TA} (F : FnOk X.prog X.w X.K X.mg X.base CX k f fd ps sp) (hr : Room k X.A) (hg : Gl X x) (hm : X.mg x = some (.ref f)) (hk : PySem.W.keepIn X.K (.ref f) = true) (hb : Binds X.K fd ps []) (hx : ∀ σ, PassesAt CX X σ (Ec σ))
    (ha : PA X (e :: es) t) (hdb : (x == ("__debug__" : Str)) = false := by decide) (hs : starEach (e :: es) X.env = (false, eval e X.env) :: starEach es X.env := by rfl) (hpl : (backTo pos (starEach es X.env)).any (·.1) = false := by rfl) :
    PE X (.Call (.Name x p) (e :: es) [] pos) (fun σ H Q => t σ H fun vs H1 => ∃ d u, H1 d = some u ∧ Mut (some u) ∧ ∀ od, sp vs (upd H1 d (.frz od u)) (fun v H2 => H2 d = some (.frz od u) ∧ Q v (upd H2 d u)) (Ec σ)) := by
  refine ⟨fun pins s0 σ H Q I h => wpAny_Call_Name_kw (ld_glob I hg hm ?_ hdb)⟩
  refine PySem.W.callWith_K (h₀ := X.base) I.ok.mod.kin hk (thn (ha.run pos pins s0 σ H _ I h) fun us s1 ⟨vs, Ha, Ia, rv, d, u, hd, mu, q⟩ => ⟨Ia.kIn, ?_⟩) hs hpl
  have nf := Ia.nofrz hd mu
  obtain ⟨od, Ib⟩ := Ia.lock hd mu
  refine thn (run_fnS F hr hb (hx σ) Ib rv (q od)) fun v s2 hv => ?_
  obtain ⟨y, H2, Ic, ry, hz, qq⟩ := hv
  exact ⟨y, _, Ic.unlock hz nf, ry, qq⟩
def eFnLk (i n : Nat) (m : List D → T D) (fa : Env → T (List FD)) : Env → T D := fun env => match env[i]? with
  | some (.own _) => (fa env).bind fun xs => if lenL (xs.map (·.2)) = n then (m (xs.map (·.2))).noX.bind fun d => if d.flat then .ret d else .bad else .bad
  | _ => .bad
theorem repFlat {p : Pg} {C : Addr → Prop} {H H' : Hp} {d : D} {v : V} (hf : d.flat = true) (r : Rep p C H d v) : Rep p C H' d v := by
  cases d <;> first | exact r | cases hf
theorem qe_callLk {l : List (Addr × Str)} {k n i : Nat} {ps : List Str} {m : List D → T D} {x : Str} {p : Pos} {e : Expr} {es : List Expr} {fa : Env → T (List FD)} (F : OkF X.prog X.w X.K X.mg X.base l k n x ps m) (hr : Room k X.A) (tk : Takes X W)
    (ha : QL X (tb0 l) W i (e :: es) fa) (hg : Gl X x := by rfl) (hdb : (x == ("__debug__" : Str)) = false := by decide) (hs : starEach (e :: es) X.env = (false, eval e X.env) :: starEach es X.env := by rfl)
    (hpl : (backTo pos (starEach es X.env)).any (·.1) = false := by rfl) : QE X (tb0 l) W (.Call (.Name x p) (e :: es) [] pos) (eFnLk i n m fa) := by
  obtain ⟨f, fd, gm, kp, b, F⟩ := F
  obtain ⟨t, h1, h2⟩ := ha.ex
  refine ⟨_, pe_callLk F hr hg gm kp b (fun σ => passAt tk σ) h1 hdb hs hpl, fun g σ env H Q E hw => ?_⟩
  unfold eFnLk at hw
  split at hw
  rotate_left
  · exact hw.elim
  rename_i o ho
  obtain ⟨a, hs', r0⟩ := E.slot i _ ho
  have hoi : OwnAt σ env H i a := .inl ⟨⟨o, ho⟩, hs'⟩
  rw [T.wp_bind] at hw
  refine h2 g σ env H _ a o E ho hs' (T.wp_mono (fun ds q vs H1 s1 fl => ?_) (fun _ z => z) hw)
  have E1 := E.step s1
  obtain ⟨a', hs1, r1⟩ := E1.slot i _ ho
  rw [hs'] at hs1; cases hs1
  have hoi1 : OwnAt σ env H1 i a := .inl ⟨⟨o, ho⟩, hs'⟩
  have nc := E1.nc hoi1
  obtain ⟨u, hu, mu⟩ := r1.obj
  refine ⟨a, u, hu, mu.mut, fun od => ?_⟩
  split at q
  rotate_left
  · exact q.elim
  rename_i hn
  rw [lenL_eq] at hn
  -- the heap with the thing locked
  have ne : ∀ b v, H1 b = some v → v ≠ u → b ≠ a := fun b v e z w => by rw [w, hu] at e; cases e; exact z rfl
  have mv : Mv H1 (upd H1 a (.frz od u)) := ⟨fun b xs e => by rw [upd_ne (ne b _ e fun z => by rw [← z] at mu; exact mu)]; exact e, fun b oo w e => by rw [upd_ne (ne b _ e fun z => by rw [← z] at mu; exact mu)]; exact e⟩
  have dm : ∀ b, Ob H1 b → Ob (upd H1 a (.frz od u)) b := fun b ⟨v, e, z⟩ => by
    by_cases w : b = a
    · subst w; exact ⟨_, upd_same, fun _ => by simp⟩
    · exact ⟨v, by rw [upd_ne w]; exact e, z⟩
  have cups : ∀ b, g.C b → CupAt (upd H1 a (.frz od u)) b := fun b c => by
    obtain ⟨x, y, e, z⟩ := E1.cup b c
    exact ⟨x, y, by rw [upd_ne (fun w => nc (by rw [← w]; exact c))]; exact e, z⟩
  have tbs : LamX.Tabs (tb0 l).l (upd H1 a (.frz od u)) := tabs_oth E1.tabs fun b v e z => by rw [upd_ne (fun w => z (by rw [w, hu] at e; cases e; exact mu))]; exact e
  have rl : RepL (pgOf X (tb0 l)) g.C (upd H1 a (.frz od u)) (ds.map (·.2)) vs := LnL.rep (r1.frz mv fun v e => by
    rw [hu] at e; cases e
    exact ⟨od, upd_same⟩) (fl.mv mv)
  rw [T.wp_bind] at q
  refine ⟨g.N0, g.C, ds.map (·.2), by rw [rl.length, hn], g.hC, cups, fun b z => dm b (E1.n0 b z), tbs, rl, T.wp_mono (fun d q v H2 s2 r2 => ?_) (fun _ z => z.elim) (T.wp_noX (E' := fun _ => False) q)⟩
  have hz : H2 a = some (.frz od u) := s2.grow a _ upd_same nc fun _ => by simp
  refine ⟨hz, ?_⟩
  split at q
  · rename_i hf
    refine q v _ (s1.trans ⟨fun b w e n t => ?_, fun b c => ?_, fun qq hq => ?_, fun b hb => ?_⟩) (repFlat hf r2)
    · by_cases z : b = a
      · subst z; rw [hu] at e; cases e; exact upd_same
      · rw [upd_ne z]
        exact s2.grow b w (by rw [upd_ne z]; exact e) n t
    · obtain ⟨x, y, e, z⟩ := s2.cup b c
      exact ⟨x, y, by rw [upd_ne (fun w => nc (by rw [← w]; exact c))]; exact e, z⟩
    · obtain ⟨pp, hps, tr, hcv⟩ := s2.tabs qq hq
      refine ⟨pp, ?_, tr, fun po cv h => ?_⟩
      · rw [upd_ne (fun w => by rw [w, hz] at hps; cases hps)]; exact hps
      · obtain ⟨c, e, hc⟩ := hcv po cv h
        refine ⟨c, e, ?_⟩
        rw [upd_ne (fun w => by rw [w, hz] at hc; simp [LamX.CodeO] at hc)]; exact hc
    · obtain ⟨w, e, z⟩ := s2.dom b (dm b hb)
      by_cases y : b = a
      · subst y; exact ⟨u, upd_same, mu.tb⟩
      · exact ⟨w, by rw [upd_ne y]; exact e, z⟩
  · exact q.elim
end
end MM

namespace MM
open PySem PySem.Spec L2 PyProof.Rows

theorem vals_back : ∀ {xs : List V} {us : List Value} {i : Nat} {w : Value}, Vals xs us → us[i]? = some w → ∃ x, xs[i]? = some x ∧ RelV x w
  | _, _, 0, w, .cons r t, h => ⟨_, rfl, by cases h; exact r⟩
  | _, _, i + 1, w, .cons r t, h => by
    obtain ⟨x, h1, h2⟩ := vals_back t (by simpa using h)
    exact ⟨x, by simpa using h1, h2⟩
/-! ### what is walked within zip, enumerate: a list, a tuple or a text -/
def Src (K : PySem.W.Frag) (H : Hp) : Nat → V → List V → Prop
  | 0, v, xs => ∃ a, v = .ref a ∧ SqL K H a xs
  | 1, v, xs => ∃ a, v = .ref a ∧ SqT K H a xs
  | _, v, xs => ∃ x : Str, v = .str x ∧ xs = x.cps.toList.map fun c => V.str ⟨#[c]⟩
/-- its iterator it, i steps on -/
def SrcIt (h : Heap) (it : Addr) (i : Nat) : Nat → Value → Prop
  | 0, u => ∃ a, u = .ref a ∧ a < it ∧ h.IsListIter it a i
  | 1, u => ∃ a, u = .ref a ∧ a < it ∧ h.IsTupleIter it a i
  | _, u => ∃ x t, u = .str x t ∧ h.IsStrIter it (strIterType x) x t i
/-- .. as it is laid -/
def srcObj (k : Nat) (u : Value) : Obj := match k, u with
  | 0, u => { cls := .type "list_iterator", data := .fields #[u, .int 0 0] }
  | 1, u => { cls := .type "tuple_iterator", data := .fields #[u, .int 0 0] }
  | _, .str x t => { cls := .type (strIterType x), data := .fields #[.str x t, .int 0 0] }
  | _, _ => { cls := .type "tuple_iterator", data := .fields #[u, .int 0 0] }
theorem SrcIt.obj {h : Heap} {it : Addr} {i : Nat} : ∀ {k : Nat} {u : Value}, SrcIt h it i k u → ∃ o, h.get? it = some o ∧ ∀ v, o.data ≠ .cell v
  | 0, _, ⟨a, _, _, o, e, _, d⟩ => ⟨o, e, fun v z => by rw [d] at z; cases z⟩
  | 1, _, ⟨a, _, _, o, e, _, d⟩ => ⟨o, e, fun v z => by rw [d] at z; cases z⟩
  | _ + 2, _, ⟨x, t, _, o, e, _, d⟩ => ⟨o, e, fun v z => by rw [d] at z; cases z⟩
theorem SrcIt.keep {h h' : Heap} {it : Addr} {i : Nat} (kp : ∀ o, h.get? it = some o → h'.get? it = some o) : ∀ {k : Nat} {u : Value}, SrcIt h it i k u → SrcIt h' it i k u
  | 0, _, ⟨a, e, l, o, ho, r⟩ => ⟨a, e, l, o, kp o ho, r⟩
  | 1, _, ⟨a, e, l, o, ho, r⟩ => ⟨a, e, l, o, kp o ho, r⟩
  | _ + 2, _, ⟨x, t, e, o, ho, r⟩ => ⟨x, t, e, o, kp o ho, r⟩
section
variable {X : Cx} {pins : List (Addr × Obj)} {σ : L2.St} {H : Hp} {s : Shared}
theorem src_begins (I : Inv X pins σ H s) : ∀ {k : Nat} {v : V} {xs : List V} {u : Value}, Src X.K H k v xs → RelV v u → ∃ Hc, Begins u (srcObj k u) Hc ∧ Hc s.heap ∧ ∀ h', h'.get? s.heap.objs.size = some (srcObj k u) → SrcIt h' s.heap.objs.size 0 k u
  | 0, v, xs, u, ⟨a, e, hq⟩, r => by
    subst e
    cases r
    obtain ⟨its, rv, p, hz⟩ := I.list hq
    exact ⟨_, begins_list a its.toArray, p.isList, fun h' e => ⟨a, rfl, p.lt, _, e, rfl, rfl⟩⟩
  | 1, v, xs, u, ⟨a, e, hq⟩, r => by
    subst e
    cases r
    obtain ⟨its, rv, p, hz⟩ := I.tuple hq
    have lt : a < s.heap.objs.size := by
      obtain ⟨o, e, _⟩ := p
      exact Heap.lt_size e
    exact ⟨_, begins_tuple a its.toArray, p, fun h' e => ⟨a, rfl, lt, _, e, rfl, rfl⟩⟩
  | _ + 2, v, xs, u, ⟨x, e, hq⟩, r => by
    subst e
    obtain ⟨t, rfl⟩ := r
    exact ⟨_, begins_text x t, trivial, fun h' e => ⟨x, t, rfl, _, e, rfl, rfl⟩⟩
/-- what the iterator gives, as things stand -/
theorem src_draws (I : Inv X pins σ H s) {A : Around} (hh : A.handled = none) {it : Addr} {j : Nat} : ∀ {k : Nat} {v : V} {xs : List V} {u : Value}, Src X.K H k v xs → RelV v u → SrcIt s.heap it j k u →
    ∃ (fp : List Addr) (P : Nat → Value → Prop) (Sx : Nat → Heap → Prop), Draws X.prog X.w A it (it :: fp) xs.length P Sx ∧ (∀ b ∈ fp, u = .ref b) ∧ Sx j s.heap ∧ (∀ i h, Sx i h → SrcIt h it i k u) ∧ ∀ i w, P i w → ∃ x, xs[i]? = some x ∧ RelV x w
  | 0, v, xs, u, ⟨a, e, hq⟩, r, st => by
    subst e
    cases r
    obtain ⟨a', e', lt, st⟩ := st
    cases e'
    obtain ⟨its, rv, p, hz⟩ := I.list hq
    have el : its.toArray.size = xs.length := by rw [List.size_toArray, ← rv.length]
    refine ⟨[a], _, _, el ▸ Draws.list (prog := X.prog) (w := X.w) hh it a (Nat.ne_of_lt lt) its.toArray, fun b hb => ?_, ⟨st, p.isList⟩, fun i h q => ⟨a, rfl, lt, q.1⟩, fun i w q => ?_⟩
    · have : b = a := by simpa using hb
      rw [this]
    · exact vals_back rv (by simpa using q)
  | 1, v, xs, u, ⟨a, e, hq⟩, r, st => by
    subst e
    cases r
    obtain ⟨a', e', lt, st⟩ := st
    cases e'
    obtain ⟨its, rv, p, hz⟩ := I.tuple hq
    have el : its.toArray.size = xs.length := by rw [List.size_toArray, ← rv.length]
    refine ⟨[a], _, _, el ▸ Draws.tuple (prog := X.prog) (w := X.w) hh it a (Nat.ne_of_lt lt) its.toArray, fun b hb => ?_, ⟨st, p⟩, fun i h q => ⟨a, rfl, lt, q.1⟩, fun i w q => ?_⟩
    · have : b = a := by simpa using hb
      rw [this]
    · exact vals_back rv (by simpa using q)
  | _ + 2, v, xs, u, ⟨x, e, hq⟩, r, st => by
    subst e hq
    obtain ⟨t, rfl⟩ := r
    obtain ⟨x', t', e', st⟩ := st
    cases e'
    have el : x.cps.size = (x.cps.toList.map fun c => V.str ⟨#[c]⟩).length := by simp
    refine ⟨[], _, _, el ▸ Draws.text (prog := X.prog) (w := X.w) hh it x t, fun b hb => absurd hb List.not_mem_nil, st, fun i h q => ⟨x, t, rfl, q⟩, fun i w ⟨c, y, h1, h2⟩ => ?_⟩
    subst h2
    refine ⟨.str ⟨#[c]⟩, by rw [List.getElem?_map, Array.getElem?_toList, h1]; rfl, y, rfl⟩
theorem SrcIt.lt {h : Heap} {it : Addr} {i : Nat} : ∀ {k : Nat} {u : Value}, SrcIt h it i k u → ∀ a, u = .ref a → a < it
  | 0, _, ⟨a, e, l, _⟩, b, q => by rw [e] at q; cases q; exact l
  | 1, _, ⟨a, e, l, _⟩, b, q => by rw [e] at q; cases q; exact l
  | _ + 2, _, ⟨x, t, e, _⟩, b, q => by rw [e] at q; cases q
end
theorem pair_ok {P : Program} {w : World} {H : Hp} {h : Heap} {T : Addr} {x y : V} {u v : Value} (hT : h.IsTuple T #[u, v]) (rx : RelV x u) (ry : RelV y v) : ObjOk P w (upd H T (.tup [x, y])) h T (.tup [x, y]) := by
  obtain ⟨o, e, c, n, d⟩ := hT
  exact ⟨by show 2 ≤ sizeLine; decide, [u, v], .cons rx (.cons ry .nil), ⟨o, e, c, n, d⟩⟩
/-! ### enumerate -/
def Iten (K : PySem.W.Frag) (k : Nat) (v : V) (xs : List V) : It :=
  ⟨fun i H => Src K H k v xs ∧ i < xs.length, fun i H z H' => ∃ T x, z = .ref T ∧ H T = none ∧ xs[i]? = some x ∧ H' = upd H T (.tup [.int i, x]), fun i H => Src K H k v xs ∧ xs.length ≤ i⟩
theorem turn_en {P : Program} {w : World} {K : PySem.W.Frag} {elts : List Expr} {kk : Nat} {tpos : Pos} {k : Nat} {v : V} {u : Value} {xs : List V} {it : Addr} (r : RelV v u) :
    Turn P w K (.Tuple elts kk tpos) (Iten K k v xs) [it + 1, it] (it + 1) (fun i h => i ≤ xs.length ∧ (∃ old, IsEnum h (it + 1) it ((i : Nat) : Int) old) ∧ SrcIt h it i k u) where
  mem := by simp
  obj := fun i h ⟨_, ⟨old, he⟩, st⟩ b hb => by
    have e' : b = it + 1 ∨ b = it := by simpa using hb
    rcases e' with z | z
    · rw [z]; exact ⟨_, he, fun v q => nomatch q⟩
    · rw [z]; exact st.obj
  keep := fun i h h' ⟨l, ⟨old, he⟩, st⟩ kp => ⟨l, ⟨old, kp _ (by simp) _ he⟩, st.keep fun o e => kp it (by simp) o e⟩
  item := by
    intro X hP hw hK hc i pins s σ H E I hf st hg
    subst hP hw hK
    obtain ⟨le, ⟨old, he⟩, st⟩ := st
    obtain ⟨src, lt⟩ := hg
    obtain ⟨fp, Pv, Sx, D, below, s0, back, vals⟩ := src_draws I (A := X.A.in1) (I.ok.hd hc) src r st
    have nf : it + 1 ∉ it :: fp := fun z => by
      rcases List.mem_cons.mp z with z | z
      · exact absurd z (Nat.succ_ne_self _)
      · exact absurd (st.lt _ (below _ z)) (Nat.not_lt.mpr (Nat.le_succ _))
    have G := GoesN.ofWalksT (elts := elts) (k := kk) (pos := tpos) (WalksT.enumerateD D (it + 1) (Nat.succ_ne_self _) nf List.mem_cons_self)
    refine G.goes i s _ E lt ⟨⟨old, he⟩, s0⟩ fun z h' tk ⟨T, vs, ez, hT, ⟨t, y, py, ev⟩, tup⟩ st' kp _ => ?_
    subst ez ev
    obtain ⟨x, hx, rx⟩ := vals i y py
    obtain ⟨⟨old', he'⟩, s1⟩ := st'
    have J : Inv X pins σ (upd H T (.tup [.int i, x])) { s with heap := h', toks := tk } := I.turnedNew (ch := [it + 1, it]) kp hf hT (pair_ok tup ⟨t, rfl⟩ rx)
    refine ⟨.ref T, _, J, rfl, ⟨T, x, rfl, I.hok.fresh hT, hx, rfl⟩, ⟨lt, ⟨old', he'⟩, back _ _ s1⟩, fun b hb => ?_⟩
    have hlt : b < s.heap.objs.size := by
      have e' : b = it + 1 ∨ b = it := by simpa using hb
      rcases e' with z | z
      · rw [z]; exact Heap.lt_size he
      · rw [z]; obtain ⟨o, e, _⟩ := st.obj; exact Heap.lt_size e
    rw [upd_ne (Nat.ne_of_lt (Nat.lt_of_lt_of_le hlt hT))]
    exact (hf b hb).1
  done := by
    intro X hP hw hK hc i pins s σ H E I hf st hg
    subst hP hw hK
    obtain ⟨le, ⟨old, he⟩, st⟩ := st
    obtain ⟨src, ge⟩ := hg
    have ei : i = xs.length := Nat.le_antisymm le ge
    obtain ⟨fp, Pv, Sx, D, below, s0, back, vals⟩ := src_draws I (A := X.A.in1) (I.ok.hd hc) src r st
    have nf : it + 1 ∉ it :: fp := fun z => by
      rcases List.mem_cons.mp z with z | z
      · exact absurd z (Nat.succ_ne_self _)
      · exact absurd (st.lt _ (below _ z)) (Nat.not_lt.mpr (Nat.le_succ _))
    have G := GoesN.ofWalksT (elts := elts) (k := kk) (pos := tpos) (WalksT.enumerateD D (it + 1) (Nat.succ_ne_self _) nf List.mem_cons_self)
    refine G.stops s _ E (by rw [← ei]; exact ⟨⟨old, he⟩, s0⟩) fun h' tk kp _ => I.turnedL (ch := [it + 1, it]) kp hf
  self := fun A i s Q E ⟨_, ⟨old, he⟩, _⟩ h => wpAny_pyIter_enum he h
/-! ### zip of two -/
def Itz2 (K : PySem.W.Frag) (k1 k2 : Nat) (v1 v2 : V) (xs ys : List V) : It :=
  ⟨fun i H => (Src K H k1 v1 xs ∧ Src K H k2 v2 ys) ∧ i < min xs.length ys.length, fun i H z H' => ∃ T x y, z = .ref T ∧ H T = none ∧ xs[i]? = some x ∧ ys[i]? = some y ∧ H' = upd H T (.tup [x, y]), fun i H => (Src K H k1 v1 xs ∧ Src K H k2 v2 ys) ∧ min xs.length ys.length ≤ i⟩
theorem turn_z2 {P : Program} {w : World} {K : PySem.W.Frag} {elts : List Expr} {kk : Nat} {tpos : Pos} {k1 k2 : Nat} {v1 v2 : V} {u1 u2 : Value} {xs ys : List V} {N : Addr} (r1 : RelV v1 u1) (r2 : RelV v2 u2) :
    Turn P w K (.Tuple elts kk tpos) (Itz2 K k1 k2 v1 v2 xs ys) [N + 4, N + 2, N + 3, N, N + 1] (N + 4)
      (fun i h => i ≤ min xs.length ys.length ∧ IsZip h (N + 4) (N + 2) (N + 3) .none ∧ IsTupOf2 h (N + 2) (.ref N) (.ref (N + 1)) ∧ (∃ a b, IsTupOf2 h (N + 3) a b) ∧ SrcIt h N i k1 u1 ∧ SrcIt h (N + 1) i k2 u2 ∧ (∀ a, u2 = .ref a → a < N)) where
  mem := by simp
  obj := fun i h ⟨_, hz, hTI, ⟨a, b', hTO⟩, t1, t2, _⟩ b hb => by
    have e' : b = N + 4 ∨ b = N + 2 ∨ b = N + 3 ∨ b = N ∨ b = N + 1 := by simpa using hb
    rcases e' with z | z | z | z | z
    · rw [z]; exact ⟨_, hz, fun v q => nomatch q⟩
    · rw [z]; exact ⟨_, hTI, fun v q => nomatch q⟩
    · rw [z]; exact ⟨_, hTO, fun v q => nomatch q⟩
    · rw [z]; exact t1.obj
    · rw [z]; exact t2.obj
  keep := fun i h h' ⟨l, hz, hTI, ⟨a, b, hTO⟩, t1, t2, q⟩ kp => ⟨l, kp _ (by simp) _ hz, kp _ (by simp) _ hTI, ⟨a, b, kp _ (by simp) _ hTO⟩, t1.keep fun o e => kp N (by simp) o e, t2.keep fun o e => kp (N + 1) (by simp) o e, q⟩
  item := by
    intro X hP hw hK hc i pins s σ H E I hf st hg
    subst hP hw hK
    obtain ⟨le, hz, hTI, hTO, t1, t2, q2⟩ := st
    obtain ⟨⟨src1, src2⟩, lt⟩ := hg
    obtain ⟨fp1, P1, S1, D1, b1, s1, back1, vals1⟩ := src_draws I (A := X.A.in1) (I.ok.hd hc) src1 r1 t1
    obtain ⟨fp2, P2, S2, D2, b2, s2, back2, vals2⟩ := src_draws I (A := X.A.in1) (I.ok.hd hc) src2 r2 t2
    have G := GoesN.zip2 (elts := elts) (x1 := kk) (pos := tpos) (zip_sep2 (fun b hb => t1.lt b (b1 b hb)) fun b hb => q2 b (b2 b hb)) D1 D2
    refine G.goes i s _ E lt ⟨hz, hTI, hTO, s1, s2⟩ fun z h' tk ⟨T, x, y, ez, hT, px, py, tup⟩ st' kp _ => ?_
    subst ez
    obtain ⟨vx, hx, rx⟩ := vals1 i x px
    obtain ⟨vy, hy, ry⟩ := vals2 i y py
    obtain ⟨hz', hTI', hTO', s1', s2'⟩ := st'
    have kp' : ∀ b o, b ∉ [N + 4, N + 2, N + 3, N, N + 1] → s.heap.get? b = some o → h'.get? b = some o := fun b o hb e => kp b o (fun z => hb (by
      have e' : b = N + 4 ∨ b = N + 3 ∨ b = N ∨ b = N + 1 := by simpa using z
      rcases e' with z | z | z | z <;> simp [z])) e
    have J : Inv X pins σ (upd H T (.tup [vx, vy])) { s with heap := h', toks := tk } := I.turnedNew (ch := [N + 4, N + 2, N + 3, N, N + 1]) kp' hf hT (pair_ok tup rx ry)
    refine ⟨.ref T, _, J, rfl, ⟨T, vx, vy, rfl, I.hok.fresh hT, hx, hy, rfl⟩, ⟨lt, hz', hTI', hTO', back1 _ _ s1', back2 _ _ s2', q2⟩, fun b hb => ?_⟩
    have hlt : b < s.heap.objs.size := by
      have e' : b = N + 4 ∨ b = N + 2 ∨ b = N + 3 ∨ b = N ∨ b = N + 1 := by simpa using hb
      have hz4 := Heap.lt_size hz
      rcases e' with z | z | z | z | z <;> rw [z] <;> first | exact hz4 | (refine Nat.lt_trans ?_ hz4; exact Nat.add_lt_add_left (by decide) N) | (refine Nat.lt_of_le_of_lt ?_ hz4; exact Nat.le_add_right N 4)
    rw [upd_ne (Nat.ne_of_lt (Nat.lt_of_lt_of_le hlt hT))]
    exact (hf b hb).1
  done := by
    intro X hP hw hK hc i pins s σ H E I hf st hg
    subst hP hw hK
    obtain ⟨le, hz, hTI, hTO, t1, t2, q2⟩ := st
    obtain ⟨⟨src1, src2⟩, ge⟩ := hg
    have ei : i = min xs.length ys.length := Nat.le_antisymm le ge
    obtain ⟨fp1, P1, S1, D1, b1, s1, back1, vals1⟩ := src_draws I (A := X.A.in1) (I.ok.hd hc) src1 r1 t1
    obtain ⟨fp2, P2, S2, D2, b2, s2, back2, vals2⟩ := src_draws I (A := X.A.in1) (I.ok.hd hc) src2 r2 t2
    have G := GoesN.zip2 (elts := elts) (x1 := kk) (pos := tpos) (zip_sep2 (fun b hb => t1.lt b (b1 b hb)) fun b hb => q2 b (b2 b hb)) D1 D2
    refine G.stops s _ E (by rw [← ei]; exact ⟨hz, hTI, hTO, s1, s2⟩) fun h' tk kp _ => I.turnedL (ch := [N + 4, N + 2, N + 3, N, N + 1]) (fun b o hb e => kp b o (fun z => hb (by
      have e' : b = N + 4 ∨ b = N + 3 ∨ b = N ∨ b = N + 1 := by simpa using z
      rcases e' with z | z | z | z <;> simp [z])) e) hf
  self := fun A i s Q E ⟨_, hz, _⟩ h => wpAny_pyIter_zip hz h
/-! ### they begin -/
theorem enum_new1 {v : Value} {o : Obj} {Hc : Heap → Prop} (B : Begins v o Hc) :
    Meets (Builtin.«enumerate.__new__» ⟨[.type "enumerate", v], []⟩) (fun _ R s => Hc s.heap ∧
      R (.ok (.ret (.ref (s.heap.push o).objs.size))) { s with heap := (s.heap.push o).push { cls := .type "enumerate", data := .fields #[.none, .bool false, .ref s.heap.objs.size, rawInt 0, .none, .none] } }) :=
  .of_wp fun prog w A R s h => by
    obtain ⟨hp, g, d, tk, os⟩ := s
    obtain ⟨h1, h⟩ := h
    have hsub := sub_enumerate
    have go : ∀ {A' : Around} {E : Value → Shared → Prop} {Q : Value → Shared → Prop}, Q (.ref hp.objs.size) ⟨hp.push o, g, d, tk, os⟩ → wpAny (model prog w) A' (pyIter v) Q E ⟨hp, g, d, tk, os⟩ :=
      fun q => B.iter prog w _ _ ⟨hp, g, d, tk, os⟩ _ h1 q
    wp_walk using go
    refine wpAny_stack_any fun st => wpAny_pure ?_
    split
    · rename_i c _ _ _ _ _
      cases (c == Value.type "enumerate") <;> (wp_walk using go; exact ⟨_, rfl, h⟩)
    · wp_walk using go
      exact ⟨_, rfl, h⟩
section
variable {prog : Program} {w : World} {A : Around} {E : Value → Shared → Prop} {s : Shared}
theorem enum_begin1 {v : Value} {o : Obj} {Hc : Heap → Prop} {Q : Value → Shared → Prop} (B : Begins v o Hc) (h1 : Hc s.heap)
    (h : ∀ h', IsEnum h' (s.heap.objs.size + 1) s.heap.objs.size 0 .none → h'.get? s.heap.objs.size = some o → (∀ b o, s.heap.get? b = some o → h'.get? b = some o) → Q (.ref (s.heap.objs.size + 1)) { s with heap := h' }) :
    wpAny (model prog w) A (call (.type "enumerate") [v]) Q E s := by
  refine callType_new F.called_enumerate (by decide) (F.typeCall_enumerate_1 _) (F.newCall_enumerate_1 _) (fun obj => F.args_object_init_2 obj _) F.entry_enumerate_new (enum_new1 B) ⟨h1, ?_⟩
  have hz : (s.heap.push o).objs.size = s.heap.objs.size + 1 := Heap.size_push ..
  have last := Heap.get?_push_size (s.heap.push o) (o := { cls := .type "enumerate", data := .fields #[.none, .bool false, .ref s.heap.objs.size, rawInt 0, .none, .none] }) rfl
  rw [hz] at last
  show _ ∧ _
  rw [hz]
  exact ⟨⟨_, last, rfl⟩, h _ last (Heap.get?_push_of_some _ (Heap.get?_push_size _ B.free)) fun b q x => Heap.get?_push_of_some _ (Heap.get?_push_of_some _ x)⟩
end
section
variable {X : Cx} {tb : Tb} {W : WX} {pos : Pos}
def iEn (K : PySem.W.Frag) (ta : TA) : TI := fun σ H R => ta σ H fun vs H1 => ∃ k v xs, vs = [v] ∧ Src K H1 k v xs ∧ R (Iten K k v xs) H1
theorem pi_en {e : Expr} {ta : TA} {p tpos : Pos} {elts : List Expr} {kk : Nat} (hg : Gl X "enumerate") (hm : X.mg "enumerate" = none) (ha : PA X [e] ta) (hs : starEach [e] X.env = [(false, eval e X.env)] := by rfl) : PI X (.Tuple elts kk tpos) (.Call (.Name "enumerate" p) [e] [] pos) (iEn X.K ta) := by
  refine ⟨fun pins s0 σ H R I h => Call_ (ld_blt I hg hm boot_enumerate (PyProof.Rows.callWith_type1 (thn (ha.run pos pins s0 σ H _ I h) fun us s1 ⟨vs, Ha, Ia, rv, k, v, xs, ev, src, q⟩ => ?_) hs rfl))⟩
  subst ev
  obtain ⟨u, rfl, ru⟩ := vals1 rv
  obtain ⟨Hc, B, hc, start⟩ := src_begins Ia src ru
  refine enum_begin1 B hc fun h' he ho kp => wpAny_pyIter_enum he ?_
  refine ⟨s1.heap.objs.size + 1, [s1.heap.objs.size + 1, s1.heap.objs.size], _, _, Ha, rfl, Ia.kept (t' := s1.toks) kp, turn_en (it := s1.heap.objs.size) ru, ⟨Nat.zero_le _, ⟨.none, he⟩, start h' ho⟩, fun b hb => ?_, q⟩
  have le : s1.heap.objs.size ≤ b := by
    have e' : b = s1.heap.objs.size + 1 ∨ b = s1.heap.objs.size := by simpa using hb
    rcases e' with z | z
    · rw [z]; exact Nat.le_succ _
    · rw [z]; exact Nat.le_refl _
  exact Ia.fpOk le (Ia.hok.fresh le)
def iZ2 (K : PySem.W.Frag) (ta : TA) : TI := fun σ H R => ta σ H fun vs H1 => ∃ k1 k2 v1 v2 xs ys, vs = [v1, v2] ∧ Src K H1 k1 v1 xs ∧ Src K H1 k2 v2 ys ∧ R (Itz2 K k1 k2 v1 v2 xs ys) H1
theorem src_lt {pins : List (Addr × Obj)} {σ : L2.St} {H : Hp} {s : Shared} (I : Inv X pins σ H s) : ∀ {k : Nat} {v : V} {xs : List V} {u : Value}, Src X.K H k v xs → RelV v u → ∀ a, u = .ref a → a < s.heap.objs.size
  | 0, v, xs, u, ⟨a, e, hq⟩, r, b, hb => by
    subst e
    cases r
    cases hb
    obtain ⟨its, rv, p, hz⟩ := I.list hq
    exact p.lt
  | 1, v, xs, u, ⟨a, e, hq⟩, r, b, hb => by
    subst e
    cases r
    cases hb
    obtain ⟨its, rv, ⟨o, e, _⟩, hz⟩ := I.tuple hq
    exact Heap.lt_size e
  | _ + 2, v, xs, u, ⟨x, e, hq⟩, r, b, hb => by
    subst e
    obtain ⟨t, rfl⟩ := r
    cases hb
theorem SrcIt.at1 {h : Heap} {N : Addr} {i : Nat} : ∀ {k : Nat} {u : Value}, h.get? (N + 1) = some (srcObj k u) → (∀ a, u = .ref a → a < N) → (k = 0 ∨ k = 1 → ∃ a, u = .ref a) → (∀ n, k = n + 2 → ∃ x t, u = .str x t) → SrcIt h (N + 1) 0 k u
  | 0, u, e, lt, h1, _ => by
    obtain ⟨a, rfl⟩ := h1 (.inl rfl)
    exact ⟨a, rfl, Nat.lt_succ_of_lt (lt a rfl), _, e, rfl, rfl⟩
  | 1, u, e, lt, h1, _ => by
    obtain ⟨a, rfl⟩ := h1 (.inr rfl)
    exact ⟨a, rfl, Nat.lt_succ_of_lt (lt a rfl), _, e, rfl, rfl⟩
  | n + 2, u, e, lt, _, h2 => by
    obtain ⟨x, t, rfl⟩ := h2 n rfl
    exact ⟨x, t, rfl, _, e, rfl, rfl⟩
theorem src_form {K : PySem.W.Frag} {H : Hp} : ∀ {k : Nat} {v : V} {xs : List V} {u : Value}, Src K H k v xs → RelV v u → (k = 0 ∨ k = 1 → ∃ a, u = .ref a) ∧ ∀ n, k = n + 2 → ∃ x t, u = .str x t
  | 0, v, xs, u, ⟨a, e, hq⟩, r => by
    subst e
    cases r
    exact ⟨fun _ => ⟨a, rfl⟩, fun n z => by cases z⟩
  | 1, v, xs, u, ⟨a, e, hq⟩, r => by
    subst e
    cases r
    exact ⟨fun _ => ⟨a, rfl⟩, fun n z => by cases z⟩
  | m + 2, v, xs, u, ⟨x, e, hq⟩, r => by
    subst e
    obtain ⟨t, rfl⟩ := r
    refine ⟨fun z => ?_, fun _ _ => ⟨x, t, rfl⟩⟩
    rcases z with z | z <;> cases z
theorem pi_z2 {e e2 : Expr} {ta : TA} {p tpos : Pos} {elts : List Expr} {kk : Nat} (hg : Gl X "zip") (hm : X.mg "zip" = none) (ha : PA X [e, e2] ta)
    (hs : starEach [e, e2] X.env = (false, eval e X.env) :: starEach [e2] X.env := by rfl) (hpl : (backTo pos (starEach [e2] X.env)).any (·.1) = false := by rfl) : PI X (.Tuple elts kk tpos) (.Call (.Name "zip" p) [e, e2] [] pos) (iZ2 X.K ta) := by
  refine ⟨fun pins s0 σ H R I h => Call_ (ld_blt I hg hm PyProof.Rows.boot_zip (PyProof.Rows.callWith_type1 (thn (ha.run pos pins s0 σ H _ I h) fun us s1 ⟨vs, Ha, Ia, rv, k1, k2, v1, v2, xs, ys, ev, src1, src2, q⟩ => ?_) hs hpl))⟩
  subst ev
  obtain ⟨u1, u2, rfl, r1, r2⟩ : ∃ u1 u2, us = [u1, u2] ∧ RelV v1 u1 ∧ RelV v2 u2 := by
    cases rv with
    | cons a b =>
      cases b with
      | cons c d =>
        cases d
        exact ⟨_, _, rfl, a, c⟩
  obtain ⟨H1, B1, c1, st1⟩ := src_begins Ia src1 r1
  obtain ⟨H2, B2, c2, _⟩ := src_begins Ia src2 r2
  refine zip_begins2 B1 B2 c1 c2 fun h' hz hTI hTO o1 o2 hsz kp => wpAny_pyIter_zip hz ?_
  have f2 := src_form src2 r2
  have lt2 := src_lt Ia src2 r2
  refine ⟨s1.heap.objs.size + 4, [s1.heap.objs.size + 4, s1.heap.objs.size + 2, s1.heap.objs.size + 3, s1.heap.objs.size, s1.heap.objs.size + 1], _, _, Ha, rfl, Ia.kept (t' := s1.toks) kp, turn_z2 (N := s1.heap.objs.size) r1 r2,
    ⟨Nat.zero_le _, hz, hTI, ⟨_, _, hTO⟩, st1 h' o1, SrcIt.at1 (i := 0) o2 lt2 f2.1 f2.2, lt2⟩, fun b hb => ?_, q⟩
  have le : s1.heap.objs.size ≤ b := by
    have e' : b = s1.heap.objs.size + 4 ∨ b = s1.heap.objs.size + 2 ∨ b = s1.heap.objs.size + 3 ∨ b = s1.heap.objs.size ∨ b = s1.heap.objs.size + 1 := by simpa using hb
    rcases e' with z | z | z | z | z <;> rw [z] <;> first | exact Nat.le_refl _ | exact Nat.le_add_right _ _
  exact Ia.fpOk le (Ia.hok.fresh le)
/-! ### their mirrors -/
def seqD : D → Option (List D)
  | .lst xs => some xs
  | .tup xs => some xs
  | .str s => some (s.map fun c => .str [c])
  | _ => none
def enumL : Nat → List D → List D
  | _, [] => []
  | i, d :: ds => .tup [.int i, d] :: enumL (i + 1) ds
theorem enumL_len : ∀ {ds : List D} {i : Nat}, (enumL i ds).length = ds.length
  | [], _ => rfl
  | d :: ds, i => by simp [enumL, enumL_len]
theorem enumL_get : ∀ {ds : List D} {i j : Nat} {x : D}, (enumL i ds)[j]? = some x → ∃ d, ds[j]? = some d ∧ x = .tup [.int (i + j : Nat), d]
  | d :: ds, i, 0, x, h => by
    simp only [enumL, List.getElem?_cons_zero, Option.some.injEq] at h
    exact ⟨d, rfl, by rw [← h]; simp⟩
  | d :: ds, i, j + 1, x, h => by
    simp only [enumL, List.getElem?_cons_succ] at h
    obtain ⟨y, h1, h2⟩ := enumL_get h
    exact ⟨y, by simpa using h1, by rw [h2]; congr 3; omega⟩
def enumD (xs : List D) : Option (List D) := match xs with
  | [x] => (seqD x).bind fun ds => if ds.length ≤ 16777216 then some (enumL 0 ds) else none
  | _ => none
def zipD2 (xs : List D) : Option (List D) := match xs with
  | [x, y] => (seqD x).bind fun as => (seqD y).bind fun bs => if as.length ≤ 16777216 && bs.length ≤ 16777216 then some (zipL as bs) else none
  | _ => none
theorem chars_rep {p : Pg} {C : Addr → Prop} {H : Hp} : ∀ s : List Nat, (∀ c ∈ s, c < 0x110000) → RepL p C H (s.map fun c => .str [c]) (s.map fun c => V.str ⟨#[c]⟩)
  | [], _ => by simp [RepL]
  | c :: s, hs => by
    simp only [List.map_cons, RepL]
    refine ⟨_, _, rfl, repStr (s := [c]) (fun z hz => ?_) (by rw [size16]; simp), chars_rep s fun z hz => hs z (List.mem_cons_of_mem _ hz)⟩
    have : z = c := by simpa using hz
    rw [this]
    exact hs c List.mem_cons_self
/-- a value that is walked, as a source -/
theorem seq_src {p : Pg} {C : Addr → Prop} {H : Hp} {d : D} {v : V} {ds : List D} (hd : seqD d = some ds) (r : Rep p C H d v) : ∃ k xs, (∀ H', Mv H H' → Src p.K H' k v xs) ∧ RepL p C H ds xs := by
  unfold seqD at hd
  split at hd
  · cases hd
    simp only [Rep] at r
    obtain ⟨a, vs, rfl, ea, la, ra⟩ := r
    exact ⟨0, vs, fun H' m => ⟨a, rfl, .inl (ea.mv m).rd⟩, ra⟩
  · cases hd
    simp only [Rep] at r
    obtain ⟨a, vs, rfl, ea, la, ra⟩ := r
    exact ⟨1, vs, fun H' m => ⟨a, rfl, SqT.mv m ea⟩, ra⟩
  · rename_i s
    cases hd
    simp only [Rep] at r
    obtain ⟨rfl, h1, h2⟩ := r
    have e : (sl s).cps.toList = s := by simp [sl]
    exact ⟨2, s.map fun c => V.str ⟨#[c]⟩, fun H' m => ⟨_, rfl, by rw [e]⟩, chars_rep s h1⟩
  · cases hd
theorem qi_en {e : Expr} {p tpos : Pos} {elts : List Expr} {kk : Nat} {fa : Env → T (List D)} (hg : Gl X "enumerate") (hm : X.mg "enumerate" = none) (h : QA X tb W [e] fa) (hs : starEach [e] X.env = [(false, eval e X.env)] := by rfl) :
    QI X tb W (.Tuple elts kk tpos) (.Call (.Name "enumerate" p) [e] [] pos) (iArg enumD fa) := by
  obtain ⟨t, h1, h2⟩ := h.ex
  refine ⟨_, pi_en hg hm h1 hs, fun g σ env H R E hw => ?_⟩
  unfold iArg at hw
  rw [T.wp_bind] at hw
  refine h2 g σ env H _ E (T.wp_mono (fun xs q vs H1 s1 r1 => ?_) (fun _ z => z) hw)
  unfold enumD at q
  split at q
  · rename_i x
    obtain ⟨v, rfl, r⟩ : ∃ v, vs = [v] ∧ Rep (pgOf X tb) g.C H1 x v := by
      simp only [RepL] at r1
      obtain ⟨v, ws, rfl, r, e⟩ := r1
      subst e
      exact ⟨v, rfl, r⟩
    cases hx : seqD x with
    | none => rw [hx] at q; exact q.elim
    | some ds =>
      rw [hx, Option.bind_some] at q
      split at q
      · rename_i hl
        obtain ⟨k, ys, src, rl⟩ := seq_src hx r
        refine ⟨k, v, ys, rfl, src H1 .refl, q _ H1 s1 (by rw [enumL_len, size16]; exact hl) fun g2 σ2 env2 H2 E2 hC m i => ⟨fun d hd => ?_, fun hl => ⟨src H2 m, by rw [enumL_len] at hl; rw [rl.length]; exact hl⟩⟩⟩
        obtain ⟨y, hy, rfl⟩ := enumL_get hd
        obtain ⟨vy, hvy, ry⟩ := rl.get hy
        refine ⟨⟨src H2 m, (List.getElem?_eq_some_iff.mp hvy).1⟩, fun z H3 ⟨T', x', ez, ht, h1, eH⟩ => ?_⟩
        subst ez eH
        rw [hvy] at h1; cases h1
        exact pair_new hC E2 ht (by simp [Rep]) (ry.mv m)
      · exact q.elim
  · exact q.elim
theorem qi_z2 {e e2 : Expr} {p tpos : Pos} {elts : List Expr} {kk : Nat} {fa : Env → T (List D)} (hg : Gl X "zip") (hm : X.mg "zip" = none) (h : QA X tb W [e, e2] fa)
    (hs : starEach [e, e2] X.env = (false, eval e X.env) :: starEach [e2] X.env := by rfl) (hpl : (backTo pos (starEach [e2] X.env)).any (·.1) = false := by rfl) :
    QI X tb W (.Tuple elts kk tpos) (.Call (.Name "zip" p) [e, e2] [] pos) (iArg zipD2 fa) := by
  obtain ⟨t, h1, h2⟩ := h.ex
  refine ⟨_, pi_z2 hg hm h1 hs hpl, fun g σ env H R E hw => ?_⟩
  unfold iArg at hw
  rw [T.wp_bind] at hw
  refine h2 g σ env H _ E (T.wp_mono (fun xs q vs H1 s1 r1 => ?_) (fun _ z => z) hw)
  unfold zipD2 at q
  split at q
  · rename_i x y
    obtain ⟨v, w, rfl, r, r'⟩ := ra2 r1
    cases hx : seqD x with
    | none => rw [hx] at q; exact q.elim
    | some as =>
      rw [hx, Option.bind_some] at q
      cases hy : seqD y with
      | none => rw [hy] at q; exact q.elim
      | some bs =>
        rw [hy, Option.bind_some] at q
        split at q
        · rename_i hl
          simp only [Bool.and_eq_true, decide_eq_true_eq] at hl
          obtain ⟨k1, vs1, src1, rl1⟩ := seq_src hx r
          obtain ⟨k2, vs2, src2, rl2⟩ := seq_src hy r'
          refine ⟨k1, k2, v, w, vs1, vs2, rfl, src1 H1 .refl, src2 H1 .refl, q _ H1 s1 (by rw [zipL_len, size16]; exact Nat.le_trans (Nat.min_le_left _ _) hl.1) fun g2 σ2 env2 H2 E2 hC m i => ⟨fun d hd => ?_, fun hl => ⟨⟨src1 H2 m, src2 H2 m⟩, by rw [zipL_len] at hl; rw [rl1.length, rl2.length]; exact hl⟩⟩⟩
          obtain ⟨x, y, hx, hy, rfl⟩ := zipL_get hd
          obtain ⟨vx, hvx, rx⟩ := rl1.get hx
          obtain ⟨vy, hvy, ry⟩ := rl2.get hy
          refine ⟨⟨⟨src1 H2 m, src2 H2 m⟩, Nat.lt_min.mpr ⟨(List.getElem?_eq_some_iff.mp hvx).1, (List.getElem?_eq_some_iff.mp hvy).1⟩⟩, fun z H3 ⟨T', x', y', ez, ht, h1, h2, eH⟩ => ?_⟩
          subst ez eH
          rw [hvx] at h1; cases h1
          rw [hvy] at h2; cases h2
          exact pair_new hC E2 ht (rx.mv m) (ry.mv m)
        · exact q.elim
  · exact q.elim
end
end MM

namespace MM
open PySem PySem.Spec L2

section
variable {X : Cx} {tb : Tb} {W : WX} {pos : Pos}
/-! ### xs.count(n) of ints -/
def countN (k : Int) : List Int → Nat
  | [] => 0
  | n :: r => if n = k then countN k r + 1 else countN k r
theorem countN_eq {k : Int} : ∀ {ns : List Int}, countN k ns = ns.count k
  | [] => rfl
  | n :: r => by
    simp only [countN, List.count_cons, countN_eq (ns := r)]
    by_cases h : n = k
    · rw [if_pos h, if_pos (by simp [h])]
    · rw [if_neg h, if_neg (by simpa using h)]; rfl
def countD (x : D) (xs : List D) : Option D := match x, xs with
  | .lst ys, [.int k] => (intsD ys).map fun ns => .int (countN k ns : Nat)
  | _, _ => none
theorem mri_count : MRI X tb (rCntI X.K) countD := fun g σ env H Q x xs vx vs d E rx rs e q => by
  unfold countD at e
  split at e
  · rename_i ys k
    simp only [Option.map_eq_some_iff] at e
    obtain ⟨ns, h1, rfl⟩ := e
    obtain ⟨v, rfl, rb⟩ := rep1 rs
    obtain ⟨a, ws, rfl, _, ea, la, ra⟩ := rx
    simp only [RepP, Rep] at rb
    subst rb
    have := intsD_rep h1 ra
    subst this
    refine ⟨a, ns, k, rfl, rfl, .inl ea, .done (q _ H E.refl ?_)⟩
    rw [countN_eq]
    exact repI
  · cases e
theorem qe_count {o e : Expr} {fx f : Env → T D} {apos cpos : Pos} (ho : QP X tb W o fx) (ha : QP X tb W e f) (hbase : attributeBase o "count" X.env (eval o X.env) = eval o X.env := by rfl)
    (hfew : ((backTo cpos (starEach [e] X.env)).all (fun x => !x.1) && (backToKw cpos (keywordEach [] X.env)).all (fun x => x.1.isSome) && decide (([e] : List Expr).length + ([] : List Keyword).length + (if ([] : List Keyword).isEmpty then 0 else 1) < 30)) = true := by rfl)
    (hline : (apos.endLine == cpos.line) = true := by rfl) (hs : starEach [e] X.env = [(false, eval e X.env)] := by rfl) (hplain : (backTo cpos (starEach [] X.env)).any (·.1) = false := by rfl) :
    QE X tb W (.Call (.Attribute o "count" apos) [e] [] cpos) (eMeth "list" countD fx (aCons f aNil)) :=
  qe_meth PySem.F.plainAttrs_list PySem.F.slot_list_count PySem.F.type_list_count mt_lcount mri_count ho (qap_cons ha qap_nil hs) (.inr rfl) hbase hfew hline hs hplain
/-! ### str(n) -/
def decS (n : Nat) : List Nat := (Nat.toDigits 10 n).map Char.toNat
def strD : List D → Option D
  | [.int i] => if 0 ≤ i && i ≤ 1000000000000 && okS (decS i.toNat) then some (.str (decS i.toNat)) else none
  | _ => none
theorem log_small {i : Int} (h : 0 ≤ i ∧ i ≤ 1000000000000) : i.natAbs.log2 < 1920 := by
  have h1 : i.natAbs < 2 ^ 41 := by omega
  by_cases z : i.natAbs = 0
  · rw [z]; decide
  · have := (Nat.log2_lt z).mpr h1
    omega
theorem cri_str : CRI X tb (fun xs H Q => ∃ i, xs = [.int i] ∧ i.natAbs.log2 < 1920 ∧ Q (.str (toString i)) H) strD := fun g σ env H Q xs vs d E r e q => by
  unfold strD at e
  split at e
  · rename_i i
    split at e
    · rename_i h
      simp only [Bool.and_eq_true, decide_eq_true_eq] at h
      cases e
      obtain ⟨v, rfl, r1⟩ := rep1 r
      simp only [RepP, Rep] at r1
      subst r1
      refine ⟨i, rfl, log_small h.1, ?_⟩
      have e1 : ((i.toNat : Nat) : Int) = i := Int.toNat_of_nonneg h.1.1
      have e2 : (Str.ofString (toString i)) = sl (decS i.toNat) := by
        have := PySem.W.KIN.signs_num i.toNat
        rw [e1] at this
        have e3 : (Str.ofString (toString i)) = ⟨(Str.ofString (toString i)).cps.toList.toArray⟩ := by simp
        rw [e3, this]
        rfl
      show Q (.str (Str.ofString (toString i))) H
      rw [e2]
      obtain ⟨o1, o2⟩ := okS_iff h.2
      exact q _ H E.refl (repStr o1 o2)
    · cases e
  · cases e
theorem qe_str1 {e : Expr} {p : Pos} {f : Env → T D} (hg : Gl X "str") (hm : X.mg "str" = none) (ha : QP X tb W e f) (hs : starEach [e] X.env = [(false, eval e X.env)] := by rfl) (hpl : (backTo pos (starEach [] X.env)).any (·.1) = false := by rfl) :
    QE X tb W (.Call (.Name "str" p) [e] [] pos) (eCall strD (aCons f aNil)) := by
  obtain ⟨t, p1, i1⟩ := (qap_cons ha qap_nil hs).ex
  refine ⟨_, pe_callTy call_str_int hg hm (by decide +kernel) p1 (by decide) (by decide) hs hpl, fun g σ env H Q E hw => ?_⟩
  unfold eCall at hw
  rw [T.wp_bind] at hw
  refine i1 g σ env H _ E (T.wp_mono (fun xs q vs H1 s1 r1 => ?_) (fun _ z => z) hw)
  cases hx : strD xs with
  | none => rw [hx] at q; exact q.elim
  | some d =>
    rw [hx] at q
    exact cri_str (X := X) (tb := tb) g σ env H1 _ xs vs d (E.step s1) r1 hx fun v H' s r => q v H' (s1.trans s) r
/-! ### sum, max, min of ints -/
def sumI : List Int → Int
  | [] => 0
  | n :: r => n + sumI r
theorem sumI_eq : ∀ ns : List Int, sumI ns = ns.sum
  | [] => rfl
  | n :: r => by simp [sumI, sumI_eq r]
def maxI : Int → List Int → Int
  | m, [] => m
  | m, n :: r => maxI (if m ≤ n then n else m) r
def minI : Int → List Int → Int
  | m, [] => m
  | m, n :: r => minI (if n ≤ m then n else m) r
theorem maxI_ok : ∀ (ns : List Int) (m : Int), m ≤ maxI m ns ∧ (∀ y ∈ ns, y ≤ maxI m ns) ∧ (maxI m ns = m ∨ maxI m ns ∈ ns)
  | [], m => ⟨Int.le_refl _, fun _ h => absurd h List.not_mem_nil, .inl rfl⟩
  | n :: r, m => by
    obtain ⟨h1, h2, h3⟩ := maxI_ok r (if m ≤ n then n else m)
    simp only [maxI]
    by_cases h : m ≤ n
    · rw [if_pos h] at h1 h2 h3 ⊢
      refine ⟨by omega, fun y hy => ?_, ?_⟩
      · rcases List.mem_cons.mp hy with z | z
        · rw [z]; exact h1
        · exact h2 y z
      · rcases h3 with z | z
        · exact .inr (by rw [z]; exact List.mem_cons_self)
        · exact .inr (List.mem_cons_of_mem _ z)
    · rw [if_neg h] at h1 h2 h3 ⊢
      refine ⟨h1, fun y hy => ?_, ?_⟩
      · rcases List.mem_cons.mp hy with z | z
        · rw [z]; omega
        · exact h2 y z
      · exact h3.imp id fun z => List.mem_cons_of_mem _ z
theorem minI_ok : ∀ (ns : List Int) (m : Int), minI m ns ≤ m ∧ (∀ y ∈ ns, minI m ns ≤ y) ∧ (minI m ns = m ∨ minI m ns ∈ ns)
  | [], m => ⟨Int.le_refl _, fun _ h => absurd h List.not_mem_nil, .inl rfl⟩
  | n :: r, m => by
    obtain ⟨h1, h2, h3⟩ := minI_ok r (if n ≤ m then n else m)
    simp only [minI]
    by_cases h : n ≤ m
    · rw [if_pos h] at h1 h2 h3 ⊢
      refine ⟨by omega, fun y hy => ?_, ?_⟩
      · rcases List.mem_cons.mp hy with z | z
        · rw [z]; exact h1
        · exact h2 y z
      · rcases h3 with z | z
        · exact .inr (by rw [z]; exact List.mem_cons_self)
        · exact .inr (List.mem_cons_of_mem _ z)
    · rw [if_neg h] at h1 h2 h3 ⊢
      refine ⟨h1, fun y hy => ?_, ?_⟩
      · rcases List.mem_cons.mp hy with z | z
        · rw [z]; omega
        · exact h2 y z
      · exact h3.imp id fun z => List.mem_cons_of_mem _ z
def sumD : List D → Option D
  | [.lst xs] => (intsD xs).map fun ns => .int (sumI ns)
  | _ => none
def maxD : List D → Option D
  | [.lst xs] => (intsD xs).bind fun ns => match ns with
    | [] => none
    | n :: r => some (.int (maxI n r))
  | _ => none
def minD : List D → Option D
  | [.lst xs] => (intsD xs).bind fun ns => match ns with
    | [] => none
    | n :: r => some (.int (minI n r))
  | _ => none
theorem lst_ints {p : Pg} {C : Addr → Prop} {H : Hp} {xs : List D} {ns : List Int} {vs : List V} (h : intsD xs = some ns) (r : RepPs p C H [.lst xs] vs) : ∃ a, vs = [.ref a] ∧ SqL p.K H a (ns.map V.int) := by
  obtain ⟨v, rfl, r1⟩ := rep1 r
  obtain ⟨a, ws, rfl, _, ea, la, ra⟩ := r1
  have := intsD_rep h ra
  subst this
  exact ⟨a, rfl, .inl ea⟩
theorem cri_sum : CRI X tb (rSum X.K) sumD := fun g σ env H Q xs vs d E r e q => by
  unfold sumD at e
  split at e
  · simp only [Option.map_eq_some_iff] at e
    obtain ⟨ns, h1, rfl⟩ := e
    obtain ⟨a, rfl, sq⟩ := lst_ints h1 r
    exact ⟨a, ns, rfl, sq, by rw [← sumI_eq]; exact q _ H E.refl repI⟩
  · cases e
theorem cri_max : CRI X tb (rMax X.K) maxD := fun g σ env H Q xs vs d E r e q => by
  unfold maxD at e
  split at e
  · simp only [Option.bind_eq_some_iff] at e
    obtain ⟨ns, h1, h2⟩ := e
    obtain ⟨a, rfl, sq⟩ := lst_ints h1 r
    cases ns with
    | nil => cases h2
    | cons n ns =>
      cases h2
      obtain ⟨k1, k2, k3⟩ := maxI_ok ns n
      refine ⟨a, n :: ns, rfl, sq, Nat.succ_pos _, fun m hm hy => ?_⟩
      have e1 : m ≤ maxI n ns := by
        rcases List.mem_cons.mp hm with z | z
        · rw [z]; exact k1
        · exact k2 m z
      have e2 : maxI n ns ≤ m := by
        rcases k3 with z | z
        · rw [z]; exact hy n List.mem_cons_self
        · exact hy _ (List.mem_cons_of_mem _ z)
      have : m = maxI n ns := Int.le_antisymm e1 e2
      rw [this]
      exact q _ H E.refl repI
  · cases e
theorem cri_min : CRI X tb (rMin X.K) minD := fun g σ env H Q xs vs d E r e q => by
  unfold minD at e
  split at e
  · simp only [Option.bind_eq_some_iff] at e
    obtain ⟨ns, h1, h2⟩ := e
    obtain ⟨a, rfl, sq⟩ := lst_ints h1 r
    cases ns with
    | nil => cases h2
    | cons n ns =>
      cases h2
      obtain ⟨k1, k2, k3⟩ := minI_ok ns n
      refine ⟨a, n :: ns, rfl, sq, Nat.succ_pos _, fun m hm hy => ?_⟩
      have e1 : minI n ns ≤ m := by
        rcases List.mem_cons.mp hm with z | z
        · rw [z]; exact k1
        · exact k2 m z
      have e2 : m ≤ minI n ns := by
        rcases k3 with z | z
        · rw [z]; exact hy n List.mem_cons_self
        · exact hy _ (List.mem_cons_of_mem _ z)
      have : m = minI n ns := Int.le_antisymm e2 e1
      rw [this]
      exact q _ H E.refl repI
  · cases e
theorem qe_sum {e : Expr} {p : Pos} {f : Env → T D} (hc : X.calm = true) (hg : Gl X "sum") (hm : X.mg "sum" = none) (ha : QP X tb W e f) (hs : starEach [e] X.env = [(false, eval e X.env)] := by rfl) (hpl : (backTo pos (starEach [] X.env)).any (·.1) = false := by rfl) :
    QE X tb W (.Call (.Name "sum" p) [e] [] pos) (eCall sumD (aCons f aNil)) := qe_callB (cr_sum hc) cri_sum hg hm (by decide +kernel) (qap_cons ha qap_nil hs) hs hpl
theorem qe_max {e : Expr} {p : Pos} {f : Env → T D} (hc : X.calm = true) (hg : Gl X "max") (hm : X.mg "max" = none) (ha : QP X tb W e f) (hs : starEach [e] X.env = [(false, eval e X.env)] := by rfl) (hpl : (backTo pos (starEach [] X.env)).any (·.1) = false := by rfl) :
    QE X tb W (.Call (.Name "max" p) [e] [] pos) (eCall maxD (aCons f aNil)) := qe_callB (cr_max hc) cri_max hg hm (by decide +kernel) (qap_cons ha qap_nil hs) hs hpl
theorem qe_min {e : Expr} {p : Pos} {f : Env → T D} (hc : X.calm = true) (hg : Gl X "min") (hm : X.mg "min" = none) (ha : QP X tb W e f) (hs : starEach [e] X.env = [(false, eval e X.env)] := by rfl) (hpl : (backTo pos (starEach [] X.env)).any (·.1) = false := by rfl) :
    QE X tb W (.Call (.Name "min" p) [e] [] pos) (eCall minD (aCons f aNil)) := qe_callB (cr_min hc) cri_min hg hm (by decide +kernel) (qap_cons ha qap_nil hs) hs hpl
end
end MM

namespace MM
open PySem PySem.Spec L2

/-! ### dicts made of pairs -/
def mergeD : List (D × D) → List (D × D) → List (D × D)
  | acc, [] => acc
  | acc, (k, d) :: r => mergeD (putD k d acc) r
def keysOk : List (D × D) → Bool
  | [] => true
  | (k, _) :: r => isK k && keysOk r
/-- pairs as abstract values -/
def RepPr (p : Pg) (C : Addr → Prop) (H : Hp) : List (D × D) → List (V × V) → Prop
  | [], ps => ps = []
  | (k, d) :: r, ps => ∃ x y ws, ps = (x, y) :: ws ∧ Rep p C H k x ∧ Rep p C H d y ∧ RepPr p C H r ws
theorem RepPr.mv {p : Pg} {C : Addr → Prop} {H H' : Hp} (m : Mv H H') : ∀ {kvs : List (D × D)} {ps : List (V × V)}, RepPr p C H kvs ps → RepPr p C H' kvs ps
  | [], _, h => h
  | (k, d) :: r, _, h => by
    obtain ⟨x, y, ws, e, r1, r2, q⟩ := h
    exact ⟨x, y, ws, e, r1.mv m, r2.mv m, RepPr.mv m q⟩
theorem RepPr.keys {p : Pg} {C : Addr → Prop} {H : Hp} : ∀ {kvs : List (D × D)} {ps : List (V × V)}, RepPr p C H kvs ps → keysOk kvs = true → ∃ kws : List (Key × V), ps = kws.map (fun kv => (kV kv.1, kv.2)) ∧ RepK p C H kvs kws
  | [], _, h, _ => by
    have h : _ = [] := h
    subst h
    exact ⟨[], rfl, by simp [RepK]⟩
  | (k, d) :: r, _, h, ok => by
    obtain ⟨x, y, ws, rfl, r1, r2, q⟩ := h
    simp only [keysOk, Bool.and_eq_true] at ok
    obtain ⟨kk, rfl⟩ := r1.key ok.1
    obtain ⟨kws, rfl, rk⟩ := RepPr.keys q ok.2
    refine ⟨(kk, y) :: kws, rfl, ?_⟩
    simp only [RepK]
    exact ⟨kk, y, kws, rfl, r1, r2, rk⟩
theorem mergeK_cons {acc r : List (Key × V)} {k : Key} {v : V} : mergeK acc ((k, v) :: r) = mergeK (putK acc k v) r := rfl
theorem RepK.merge {p : Pg} {C : Addr → Prop} {H : Hp} : ∀ {kvs acc : List (D × D)} {kws aws : List (Key × V)}, RepK p C H kvs kws → RepK p C H acc aws → nodK acc = true → RepK p C H (mergeD acc kvs) (mergeK aws kws) ∧ nodK (mergeD acc kvs) = true
  | [], acc, kws, aws, h, a, n => by
    simp only [RepK] at h
    subst h
    exact ⟨a, n⟩
  | (k, d) :: r, acc, kws, aws, h, a, n => by
    simp only [RepK] at h
    obtain ⟨kk, v, ws, rfl, r1, r2, q⟩ := h
    rw [mergeK_cons]
    exact MM.RepK.merge (kvs := r) q (RepK.put r1 r2 n a) (nodK_put n)
theorem mergeD_len : ∀ {kvs acc : List (D × D)}, (mergeD acc kvs).length ≤ acc.length + kvs.length
  | [], acc => by simp [mergeD]
  | (k, d) :: r, acc => by
    have h1 := mergeD_len (kvs := r) (acc := putD k d acc)
    have h2 := putD_len (k := k) (v := d) (kvs := acc)
    simp only [mergeD, List.length_cons]
    omega
/-! a list of pairs -/
def pairsD : List D → Option (List (D × D))
  | [] => some []
  | .tup [k, d] :: r => (pairsD r).map ((k, d) :: ·)
  | _ :: _ => none
theorem pairs_rep {p : Pg} {C : Addr → Prop} {H : Hp} : ∀ {xs : List D} {kvs : List (D × D)} {vs : List V}, pairsD xs = some kvs → keysOk kvs = true → RepL p C H xs vs → ∃ (as : List Addr) (kws : List (Key × V)), vs = as.map V.ref ∧ Paired (fun a kv => SqT p.K H a [kV kv.1, kv.2]) as kws ∧ RepK p C H kvs kws
  | [], kvs, vs, h, _, r => by
    cases h
    simp only [RepL] at r
    subst r
    exact ⟨[], [], rfl, .nil, by simp [RepK]⟩
  | x :: xs, kvs, vs, h, ok, r => by
    unfold pairsD at h
    split at h
    · rename_i e
      cases e
    · rename_i k d rest e
      cases e
      simp only [Option.map_eq_some_iff] at h
      obtain ⟨ks, h1, rfl⟩ := h
      simp only [keysOk, Bool.and_eq_true] at ok
      simp only [RepL] at r
      obtain ⟨v, ws, rfl, r1, r2⟩ := r
      simp only [Rep] at r1
      obtain ⟨a, us, rfl, sq, _, ru⟩ := r1
      obtain ⟨vk, vd, rfl, rk, rd⟩ := ra2 ru
      obtain ⟨kk, rfl⟩ := rk.key ok.1
      obtain ⟨as, kws, rfl, pr, rr⟩ := pairs_rep h1 ok.2 r2
      refine ⟨a :: as, (kk, vd) :: kws, rfl, .cons sq pr, ?_⟩
      simp only [RepK]
      exact ⟨kk, vd, kws, rfl, rk, rd, rr⟩
    · cases h
def dictPD : List D → Option D
  | [.lst xs] => (pairsD xs).bind fun kvs => if keysOk kvs && kvs.length ≤ 16777216 then some (.dic (mergeD [] kvs)) else none
  | [.dic kvs] => some (.dic kvs)
  | _ => none
section
variable {X : Cx} {tb : Tb} {W : WX} {pos : Pos}
def rDictP (X : Cx) : List V → Hp → VK → Prop := fun xs H Q => (∃ (a : Addr) (ps : List Addr) (kvs : List (Key × V)), xs = [.ref a] ∧ SqL X.K H a (ps.map V.ref) ∧ Paired (fun p kv => SqT X.K H p [kV kv.1, kv.2]) ps kvs ∧ ∀ p, H p = none → Q (.ref p) (upd H p (.dK (mergeK [] kvs)))) ∨
  ∃ a kvs, xs = [.ref a] ∧ Rd H a (.dK kvs) ∧ ∀ p, H p = none → Q (.ref p) (upd H p (.dK kvs))
theorem call_dictPD (hc : X.calm = true) : CallR X (.type "dict") (rDictP X) := fun pins s σ H xs us Q I r h => h.elim (call_dictP hc pins s σ H xs us Q I r) (call_copyD pins s σ H xs us Q I r)
theorem qo_dictP {e : Expr} {p : Pos} {f : Env → T D} (hc : X.calm = true) (hg : Gl X "dict") (hm : X.mg "dict" = none) (ha : QP X tb W e f) (hs : starEach [e] X.env = [(false, eval e X.env)] := by rfl) (hpl : (backTo pos (starEach [] X.env)).any (·.1) = false := by rfl) :
    QO X tb W (.Call (.Name "dict" p) [e] [] pos) (eCall dictPD (aCons f aNil)) := by
  obtain ⟨t, p1, i1⟩ := (qap_cons ha qap_nil hs).ex
  refine ⟨_, pe_callTy (call_dictPD hc) hg hm (by decide +kernel) p1 (by decide) (by decide) hs hpl, fun g σ env H Q E hw => ?_⟩
  unfold eCall at hw
  rw [T.wp_bind] at hw
  refine i1 g σ env H _ E (T.wp_mono (fun xs q vs H1 s1 r1 => ?_) (fun _ z => z) hw)
  have E1 := E.step s1
  unfold dictPD at q
  split at q
  · rename_i ys
    obtain ⟨v, rfl, r2⟩ := rep1 r1
    obtain ⟨a, ws, rfl, _, ea, la, ra⟩ := r2
    cases hp : pairsD ys with
    | none => rw [hp] at q; exact q.elim
    | some kvs =>
      rw [hp, Option.bind_some] at q
      split at q
      · rename_i hk
        simp only [Bool.and_eq_true, decide_eq_true_eq] at hk
        obtain ⟨as, kws, rfl, pr, rk⟩ := pairs_rep hp hk.1 ra
        refine .inl ⟨a, as, kws, rfl, .inl ea, pr, fun l hl => ?_⟩
        obtain ⟨n0, h0⟩ := E1.free0 hl
        obtain ⟨m1, m2⟩ := RepK.merge (acc := []) (aws := []) rk (by simp [RepK]) rfl
        exact q l _ (s1.trans (E1.alloc hl)) (E1.float hl) n0 h0 (s1.free hl) ⟨_, upd_same, ⟨Nat.le_trans mergeD_len (by rw [size16]; simpa using hk.2), m2⟩, RepK.mv (E1.mvFloat hl) m1⟩
      · exact q.elim
  · rename_i kvs
    obtain ⟨v, rfl, r2⟩ := rep1 r1
    obtain ⟨a, ws, rfl, _, ea, la, ra⟩ := r2
    refine .inr ⟨a, ws, rfl, ea, fun l hl => ?_⟩
    obtain ⟨n0, h0⟩ := E1.free0 hl
    exact q l _ (s1.trans (E1.alloc hl)) (E1.float hl) n0 h0 (s1.free hl) ⟨ws, upd_same, la, RepK.mv (E1.mvFloat hl) ra⟩
  · exact q.elim
/-! ### {k: v, ..} -/
structure QPr (X : Cx) (tb : Tb) (W : WX) (pos : Pos) (keys : List (Option Expr)) (values : List Expr) (f : Env → T (List (D × D))) : Prop where
  ex : ∃ trs, PPs X pos keys values trs ∧ ∀ g σ env H (Q : List (V × V) → Hp → Prop), ER (pgOf X tb) g σ env H → (f env).wp (fun kvs => ∀ ps H', Step (pgOf X tb) g.C H H' → RepPr (pgOf X tb) g.C H' kvs ps → Q ps H') (XP (pgOf X tb) g σ H W) → tPairs trs σ H Q
def prNil : Env → T (List (D × D)) := fun _ => .ret []
def prCons (fk fv : Env → T D) (r : Env → T (List (D × D))) : Env → T (List (D × D)) := fun env => (fk env).bind fun k => (fv env).bind fun v => (r env).bind fun kvs => .ret ((k, v) :: kvs)
theorem qpr_nil : QPr X tb W pos [] [] prNil := ⟨_, pps_nil, fun g σ env H Q E hw => hw [] H E.refl rfl⟩
theorem qpr_cons {k v : Expr} {ks : List (Option Expr)} {vs : List Expr} {fk fv : Env → T D} {r : Env → T (List (D × D))} (h1 : QE X tb W k fk) (h2 : QE X tb W v fv) (h3 : QPr X tb W pos ks vs r) : QPr X tb W pos (some k :: ks) (v :: vs) (prCons fk fv r) := by
  obtain ⟨t1, p1, i1⟩ := h1.ex
  obtain ⟨t2, p2, i2⟩ := h2.ex
  obtain ⟨trs, p3, i3⟩ := h3.ex
  refine ⟨_, pps_cons p1 p2 p3, fun g σ env H Q E hw => ?_⟩
  unfold prCons at hw
  rw [T.wp_bind] at hw
  refine i1 g σ env H _ E (T.wp_mono (fun x q vx H1 s1 r1 => ?_) (fun _ z => z) hw)
  have E1 := E.step s1
  rw [T.wp_bind] at q
  refine i2 g σ env H1 _ E1 (T.wp_mono (fun y q vy H2 s2 r2 => ?_) (wpStep s1) q)
  have E2 := E1.step s2
  rw [T.wp_bind] at q
  refine i3 g σ env H2 _ E2 (T.wp_mono (fun kvs q ps H3 s3 r3 => ?_) (wpStep (s1.trans s2)) q)
  exact q ((vx, vy) :: ps) H3 (s1.trans (s2.trans s3)) ⟨vx, vy, ps, rfl, r1.mv (E1.mv (s2.trans s3)), r2.mv (E2.mv s3), r3⟩
def eDisp (f : Env → T (List (D × D))) : Env → T D := fun env => (f env).bind fun kvs => if keysOk kvs && kvs.length ≤ 15 then .ret (.dic (mergeD [] kvs)) else .bad
theorem qo_disp {keys : List (Option Expr)} {values : List Expr} {f : Env → T (List (D × D))} (h : QPr X tb W pos keys values f) (hall : keys.all (·.isSome) = true := by rfl) (hl : keys.length = values.length := by rfl) (h0 : keys ≠ [] := by simp) (h15 : keys.length ≤ 15 := by decide) : QO X tb W (.Dict keys values pos) (eDisp f) := by
  obtain ⟨trs, p1, i1⟩ := h.ex
  refine ⟨_, pe_disp p1 hall hl h0 h15, fun g σ env H Q E hw p hp => ?_⟩
  unfold eDisp at hw
  rw [T.wp_bind] at hw
  obtain ⟨n0, hh0⟩ := E.free0 hp
  have sA := E.alloc (o := .dK []) hp
  have EA := E.float (o := .dK []) hp
  refine i1 (g.fl p) σ env _ _ EA (T.wp_mono (fun kvs q ps H2 s2 r2 => ?_) (fun x z => wpStep sA x z) hw)
  have s2' : Step (pgOf X tb) g.C (upd H p (.dK [])) H2 := s2
  have hz : H2 p = some (.dK []) := s2'.grow p _ upd_same (fun c => n0 (g.hC p c)) fun _ => by simp
  refine ⟨hz, ?_⟩
  split at q
  · rename_i hk
    simp only [Bool.and_eq_true, decide_eq_true_eq] at hk
    obtain ⟨kws, rfl, rk⟩ := RepPr.keys r2 hk.1
    have lk : kws.length ≤ 15 := by rw [rk.len]; exact hk.2
    obtain ⟨m1, m2⟩ := RepK.merge (acc := []) (aws := []) rk (by simp [RepK]) rfl
    have E2 := EA.step s2
    refine ⟨kws, rfl, lk, ?_⟩
    obtain ⟨w1, w2, w3⟩ := ER.writeFl (o := .dK (mergeK [] kws)) E2 hz trivial trivial (fun c => n0 (g.hC p c)) hh0
    exact q p _ (w3 H (sA.trans s2') (nOb hp)) w1 n0 hh0 (nOb hp) ⟨_, upd_same, ⟨Nat.le_trans mergeD_len (by rw [size16]; simp; omega), m2⟩, RepK.mv w2 m1⟩
  · exact q.elim
end
end MM

namespace MM
open PySem PySem.Spec L2 PyProof.Rows

/-! ### list(zip(xs, ys)) of two lists -/
theorem zip_no_len : typeLookup (.type "zip") "__len__" = pure none := am_miss_of_fast (by decide +kernel)
theorem zip_no_hint : typeLookup (.type "zip") "__length_hint__" = pure none := am_miss_of_fast (by decide +kernel)
/-- the pairs that were given out, at Ts -/
structure Outs (xs ys : Array Value) (N : Addr) (h : Heap) (Ts : List Addr) : Prop where
  rise : Ts.Pairwise (· < ·)
  above : ∀ a ∈ Ts, N ≤ a
  pairs : ∀ (j : Nat) (a : Addr), Ts[j]? = some a → ∃ x y, xs[j]? = some x ∧ ys[j]? = some y ∧ IsPair h a x y
theorem Outs.mv {xs ys : Array Value} {N : Addr} {h h' : Heap} {Ts : List Addr} (o : Outs xs ys N h Ts) (k : ∀ b u, N ≤ b → h.get? b = some u → h'.get? b = some u) : Outs xs ys N h' Ts :=
  ⟨o.rise, o.above, fun j a e => let ⟨x, y, h1, h2, h3⟩ := o.pairs j a e; ⟨x, y, h1, h2, k a _ (o.above a (List.mem_of_getElem? e)) h3⟩⟩
/-- the zip between its turns -/
def ZipMid (h : Heap) (z TI TO : Addr) (Ts : List Addr) : Prop := (Ts = [] ∧ IsZip h z TI TO .none ∧ ∃ a b, IsPair h TO a b) ∨ ∃ T f, T ∈ Ts ∧ IsZipHeld h z TI TO T f
theorem ZipMid.keep {h h' : Heap} {z TI TO : Addr} {Ts : List Addr} (m : ZipMid h z TI TO Ts) (k1 : ∀ o, h.get? z = some o → h'.get? z = some o) (k2 : ∀ o, h.get? TO = some o → h'.get? TO = some o) : ZipMid h' z TI TO Ts := by
  rcases m with ⟨e, q, a, b, r⟩ | ⟨T, f, hm, q⟩
  · exact .inl ⟨e, k1 _ q, a, b, k2 _ r⟩
  · exact .inr ⟨T, f, hm, k1 _ q⟩
theorem ZipMid.typeIs {s : Shared} {z TI TO : Addr} {Ts : List Addr} (m : ZipMid s.heap z TI TO Ts) : s.TypeIs (.ref z) "zip" := by
  rcases m with ⟨e, q, _⟩ | ⟨T, f, hm, q⟩
  · exact ⟨_, q, rfl⟩
  · exact ⟨_, q, rfl⟩
section
variable {prog : Program} {w : World} {A : Around} {E : Value → Shared → Prop} {s : Shared} {z TI TO i1 i2 l1 l2 S N : Addr} {xs ys : Array Value}
/-- one turn -/
theorem zl_item {k : Nat} {Ts : List Addr} {Q : Option Value → Shared → Prop} (D : ZipApart z TI TO i1 i2 l1 l2) (hN : z < N ∧ TO < N ∧ i1 < N ∧ i2 < N) (m : ZipMid s.heap z TI TO Ts) (hTI : IsPair s.heap TI (.ref i1) (.ref i2))
    (h1 : s.heap.IsListIter i1 l1 k) (h2 : s.heap.IsListIter i2 l2 k) (hl1 : s.heap.IsList l1 xs) (hl2 : s.heap.IsList l2 ys) (o : Outs xs ys N s.heap Ts) (hk : Ts.length = k) (hsz : N ≤ s.heap.objs.size) (hx : k < min xs.size ys.size)
    (hQ : ∀ h', ZipMid h' z TI TO (Ts ++ [s.heap.objs.size]) → h'.IsListIter i1 l1 (k + 1) → h'.IsListIter i2 l2 (k + 1) → Outs xs ys N h' (Ts ++ [s.heap.objs.size]) → h'.objs.size = s.heap.objs.size + 1 →
      (∀ c u, c ≠ z → c ≠ TO → c ≠ i1 → c ≠ i2 → s.heap.get? c = some u → h'.get? c = some u) → Q (some (.ref s.heap.objs.size)) { s with heap := h' }) : wpAny (model prog w) A (pyNext (.ref z)) Q E s := by
  have ex : xs[k]? = some xs[k] := Array.getElem?_eq_getElem (by omega)
  have ey : ys[k]? = some ys[k] := Array.getElem?_eq_getElem (by omega)
  have fin : ∀ h', (∃ T f, T ∈ Ts ++ [s.heap.objs.size] ∧ IsZipHeld h' z TI TO T f) → h'.IsListIter i1 l1 (k + 1) → h'.IsListIter i2 l2 (k + 1) → IsPair h' s.heap.objs.size xs[k] ys[k] → h'.objs.size = s.heap.objs.size + 1 →
      (∀ c u, c ≠ z → c ≠ TO → c ≠ i1 → c ≠ i2 → s.heap.get? c = some u → h'.get? c = some u) → Q (some (.ref s.heap.objs.size)) { s with heap := h' } := fun h' hz' a1 a2 pr sz kp => by
    refine hQ h' (.inr hz') a1 a2 ⟨?_, fun a ha => ?_, fun j a hj => ?_⟩ sz kp
    · refine List.pairwise_append.mpr ⟨o.rise, List.pairwise_singleton _ _, fun a ha b hb => ?_⟩
      rw [List.mem_singleton.mp hb]
      obtain ⟨j, hj⟩ := List.mem_iff_getElem?.mp ha
      obtain ⟨x, y, _, _, p⟩ := o.pairs j a hj
      exact Heap.lt_size p
    · rcases List.mem_append.mp ha with h | h
      · exact o.above a h
      · rw [List.mem_singleton.mp h]; exact hsz
    · by_cases hj' : j < Ts.length
      · rw [List.getElem?_append_left hj'] at hj
        obtain ⟨x, y, e1, e2, p⟩ := o.pairs j a hj
        have ha := o.above a (List.mem_of_getElem? hj)
        exact ⟨x, y, e1, e2, kp a _ (Nat.ne_of_gt (Nat.lt_of_lt_of_le hN.1 ha)) (Nat.ne_of_gt (Nat.lt_of_lt_of_le hN.2.1 ha)) (Nat.ne_of_gt (Nat.lt_of_lt_of_le hN.2.2.1 ha)) (Nat.ne_of_gt (Nat.lt_of_lt_of_le hN.2.2.2 ha)) p⟩
      · have ej : j = Ts.length := by
          by_cases h3 : j = Ts.length
          · exact h3
          · rw [List.getElem?_eq_none (by rw [List.length_append, List.length_singleton]; omega)] at hj
            cases hj
        rw [ej, List.getElem?_concat_length] at hj
        cases hj
        exact ⟨_, _, by rw [ej, hk]; exact ex, by rw [ej, hk]; exact ey, pr⟩
  rcases m with ⟨e, q, a, b, r⟩ | ⟨T, f, hm, q⟩
  · refine wpAny_pyNext_zip_item D q hTI r h1 h2 hl1 hl2 ex ey fun h' z' TO' a1 a2 pr sz kp => fin h' ⟨_, false, List.mem_append_right _ (List.mem_singleton.mpr rfl), z'⟩ a1 a2 pr sz kp
  · obtain ⟨j, hj⟩ := List.mem_iff_getElem?.mp hm
    obtain ⟨x, y, _, _, p⟩ := o.pairs j T hj
    exact wpAny_pyNext_zip_item_held D q p hTI h1 h2 hl1 hl2 ex ey fun h' z' a1 a2 pr sz kp => fin h' ⟨T, true, List.mem_append_left _ hm, z'⟩ a1 a2 pr sz fun c u c1 _ c3 c4 e => kp c u c1 c3 c4 e
theorem zl_end {k : Nat} {Ts : List Addr} {Q : Option Value → Shared → Prop} (hh : A.handled = none) (D : ZipApart z TI TO i1 i2 l1 l2) (m : ZipMid s.heap z TI TO Ts) (hTI : IsPair s.heap TI (.ref i1) (.ref i2))
    (h1 : s.heap.IsListIter i1 l1 k) (h2 : s.heap.IsListIter i2 l2 k) (hl1 : s.heap.IsList l1 xs) (hl2 : s.heap.IsList l2 ys) (o : Outs xs ys N s.heap Ts) (hx : min xs.size ys.size ≤ k)
    (hQ : ∀ h', (∀ c u, c ≠ z → c ≠ TO → c ≠ i1 → c ≠ i2 → s.heap.get? c = some u → h'.get? c = some u) → Q none { s with heap := h' }) : wpAny (model prog w) A (pyNext (.ref z)) Q E s := by
  have he : xs[k]? = none ∨ ys[k]? = none := by
    rcases Nat.lt_or_ge k xs.size with h | h
    · exact .inr (Array.getElem?_eq_none (by omega))
    · exact .inl (Array.getElem?_eq_none h)
  rcases m with ⟨e, q, a, b, r⟩ | ⟨T, f, hm, q⟩
  · exact wpAny_pyNext_zip_end hh D q hTI r h1 h2 hl1 hl2 he hQ
  · obtain ⟨j, hj⟩ := List.mem_iff_getElem?.mp hm
    obtain ⟨x, y, _, _, p⟩ := o.pairs j T hj
    exact wpAny_pyNext_zip_end_held hh D q p hTI h1 h2 hl1 hl2 he fun h' kp => hQ h' fun c u c1 _ c3 c4 e => kp c u c1 c3 c4 e
/-- the loop -/
theorem zl_loop {R : Result → Shared → Prop} (hh : A.handled = none) (D : ZipApart z TI TO i1 i2 l1 l2) (hN : z < N ∧ TO < N ∧ i1 < N ∧ i2 < N) (hS : S < N) (aS : S ≠ z ∧ S ≠ TI ∧ S ≠ TO ∧ S ≠ i1 ∧ S ≠ i2 ∧ S ≠ l1 ∧ S ≠ l2) (hn : min xs.size ys.size ≤ sizeLine) {h₁ : Heap} (res : Value)
    (hR : ∀ h' tk Ts c, (∀ b u, b ≠ S → b ≠ z → b ≠ TO → b ≠ i1 → b ≠ i2 → h₁.get? b = some u → h'.get? b = some u) → h'.get? S = some (seqObj "list" (Ts.map Value.ref).toArray c) → Ts.length = min xs.size ys.size → Outs xs ys N h' Ts → R (.ok (.ret res)) { s with heap := h', toks := tk }) :
    ∀ (m k : Nat) (h : Heap) (tk c : Nat) (Ts : List Addr), min xs.size ys.size - k = m → k ≤ min xs.size ys.size → ZipMid h z TI TO Ts → IsPair h TI (.ref i1) (.ref i2) → h.IsListIter i1 l1 k → h.IsListIter i2 l2 k → h.IsList l1 xs → h.IsList l2 ys →
      Outs xs ys N h Ts → Ts.length = k → N ≤ h.objs.size → (∀ b u, b ≠ S → b ≠ z → b ≠ TO → b ≠ i1 → b ≠ i2 → h₁.get? b = some u → h.get? b = some u) → h.get? S = some (seqObj "list" (Ts.map Value.ref).toArray c) →
      codeAny (model prog w) A (.builtin "list.extend.loop" ⟨[.ref S, .ref z, res], []⟩) R { s with heap := h, toks := tk } := by
  obtain ⟨S1, S2, S3, S4, S5, S6, S7⟩ := aS
  intro m
  induction m with
  | zero =>
    intro k h tk c Ts hm hk mid hTI h1 h2 hl1 hl2 o hl sz kp hSo
    refine codeAny_builtin PySem.F.entry_extend_loop ?_
    rw [Around.under_plainId PySem.F.plain_extend_loop _]
    show wpAny _ A.in1 (pyNext (.ref z) >>= _) _ _ _
    have ek : k = min xs.size ys.size := by omega
    refine wpAny_bind (zl_end (s := { s with heap := h, toks := tk }) (k := k) hh D mid hTI h1 h2 hl1 hl2 o (by omega) fun h' kp' => ?_)
    exact wpAny_pure (hR h' tk Ts c (fun b u b1 b2 b3 b4 b5 e => kp' b u b2 b3 b4 b5 (kp b u b1 b2 b3 b4 b5 e)) (kp' S _ S1 S3 S4 S5 hSo) (by rw [hl, ek]) (o.mv fun b u hb e =>
      kp' b u (Nat.ne_of_gt (Nat.lt_of_lt_of_le hN.1 hb)) (Nat.ne_of_gt (Nat.lt_of_lt_of_le hN.2.1 hb)) (Nat.ne_of_gt (Nat.lt_of_lt_of_le hN.2.2.1 hb)) (Nat.ne_of_gt (Nat.lt_of_lt_of_le hN.2.2.2 hb)) e))
  | succ m ih =>
    intro k h tk c Ts hm hk mid hTI h1 h2 hl1 hl2 o hl sz kp hSo
    refine codeAny_builtin PySem.F.entry_extend_loop ?_
    rw [Around.under_plainId PySem.F.plain_extend_loop _]
    show wpAny _ A.in1 (pyNext (.ref z) >>= _) _ _ _
    refine wpAny_bind (zl_item (s := { s with heap := h, toks := tk }) (k := k) D hN mid hTI h1 h2 hl1 hl2 o hl sz (by omega) fun h' mid' a1 a2 o' sz' kp' => ?_)
    dsimp only at mid' o' sz' kp' ⊢
    have hSo' := kp' S _ S1 S3 S4 S5 hSo
    have up : ∀ b u, b ≠ S → h'.get? b = some u → (h'.update S (Obj.mapSeq (·.push (Value.ref h.objs.size)))).get? b = some u := fun b u hb e => (Heap.get?_update_other _ _ (Ne.symm hb)).trans e
    have el : (Ts.map Value.ref).toArray.size = k := by simp [hl]
    obtain ⟨c', hc'⟩ : ∃ c', (h'.update S (Obj.mapSeq (·.push (Value.ref h.objs.size)))).get? S = some (seqObj "list" ((Ts.map Value.ref).toArray.push (Value.ref h.objs.size)) c') := ⟨_, get?_update_seq hSo' (·.push (Value.ref h.objs.size))⟩
    show wpAny _ A.in1 (updateSeq S (·.push (Value.ref h.objs.size)) >>= _) _ _ _
    refine wpAny_bind (wpAny_updateSeq hSo' rfl (wpAny_pure ⟨plainId_quiet PySem.F.plain_extend_loop _, ?_⟩) (by rw [el]; omega) (by show ((Ts.map Value.ref).toArray.push _).size ≤ sizeLine + 1; rw [Array.size_push, el]; omega))
    refine ih (k + 1) _ tk c' (Ts ++ [h.objs.size]) (by omega) (by omega) (mid'.keep (fun o e => up z o (Ne.symm S1) e) fun o e => up TO o (Ne.symm S3) e) (up TI _ (Ne.symm S2) (kp' TI _ D.TIz D.TITO D.TIi1 D.TIi2 hTI)) (a1.at fun o e => up i1 o (Ne.symm S4) e) (a2.at fun o e => up i2 o (Ne.symm S5) e)
      (hl1.at fun o e => up l1 o (Ne.symm S6) (kp' l1 o D.l1z D.l1TO D.l1i1 D.l1i2 e)) (hl2.at fun o e => up l2 o (Ne.symm S7) (kp' l2 o D.l2z D.l2TO D.l2i1 D.l2i2 e)) (o'.mv fun b u hb e => up b u (Nat.ne_of_gt (Nat.lt_of_lt_of_le hS hb)) e) (by simp [hl]) (Nat.le_trans sz (by rw [Heap.size_update, sz']; exact Nat.le_succ _))
      (fun b u b1 b2 b3 b4 b5 e => up b u b1 (kp' b u b2 b3 b4 b5 (kp b u b1 b2 b3 b4 b5 e))) (by rw [hc']; simp)
/-- what a loop over zip leaves -/
def ZlPost (h₁ : Heap) (xs ys : Array Value) (z TO i1 i2 S N : Addr) (h' : Heap) (Ts : List Addr) (c : Nat) : Prop :=
  (∀ b u, b ≠ S → b ≠ z → b ≠ TO → b ≠ i1 → b ≠ i2 → h₁.get? b = some u → h'.get? b = some u) ∧ h'.get? S = some (seqObj "list" (Ts.map Value.ref).toArray c) ∧ Ts.length = min xs.size ys.size ∧ Outs xs ys N h' Ts
theorem zl_extend {R : Result → Shared → Prop} (hh : A.handled = none) (D : ZipApart z TI TO i1 i2 l1 l2) (hN : z < N ∧ TO < N ∧ i1 < N ∧ i2 < N) (hS : S < N) (aS : S ≠ z ∧ S ≠ TI ∧ S ≠ TO ∧ S ≠ i1 ∧ S ≠ i2 ∧ S ≠ l1 ∧ S ≠ l2) (hn : min xs.size ys.size ≤ sizeLine) (res : Value) (c₀ : Nat)
    (hz : IsZip s.heap z TI TO .none) (hTI : IsPair s.heap TI (.ref i1) (.ref i2)) (hTO : ∃ a b, IsPair s.heap TO a b) (h1 : s.heap.IsListIter i1 l1 0) (h2 : s.heap.IsListIter i2 l2 0) (hl1 : s.heap.IsList l1 xs) (hl2 : s.heap.IsList l2 ys) (sz : N ≤ s.heap.objs.size)
    (hSo : s.heap.get? S = some { cls := .type "list", data := .seq #[] c₀ }) (hR : ∀ h' tk Ts c, ZlPost s.heap xs ys z TO i1 i2 S N h' Ts c → R (.ok (.ret res)) { s with heap := h', toks := tk }) :
    wpAny (model prog w) A.in1 (Builtin.List.listExtendWith (.ref S) (.ref z) res) (fun fin s' => match fin with | .done f => R (.ok f) s' | .again c' => c'.quiet = true ∧ codeAny (model prog w) A c' R s') (fun e s' => R (.error e) s') s := by
  obtain ⟨S1, S2, S3, S4, S5, S6, S7⟩ := aS
  have hT : s.TypeIs (.ref z) "zip" := ⟨_, hz, rfl⟩
  unfold Builtin.List.listExtendWith
  refine wpAny_bind (wpAny_typeOf hT ?_)
  have k1 : Builtin.List.listSameRef (.ref S) (.ref z) = false := by simp [Builtin.List.listSameRef, S1]
  have k2 : (Value.type "zip" == Value.type "list") = false := by decide
  have k3 : (Value.type "zip" == Value.type "tuple") = false := by decide
  simp only [k1, k2, k3, Bool.or_false, Bool.false_eq_true, if_false]
  refine wpAny_bind (wpAny_pyIter_zip hz ?_)
  refine wpAny_bind (wpAny_holding ?_)
  unfold Builtin.List.listLengthHint
  refine wpAny_bind (wpAny_specialOf hT zip_no_len ?_)
  show wpAny _ A.in1 (specialOf (Value.ref z) (Str.ofString "__length_hint__") >>= _) _ _ _
  refine wpAny_bind (wpAny_specialOf hT zip_no_hint (wpAny_pure ?_))
  show wpAny _ A.in1 (rule "list.extend.makes-room" >>= fun _ => Builtin.List.listTouch (.ref S) >>= fun _ => again (.builtin "list.extend.loop" ⟨[.ref S, .ref z, res], []⟩)) _ _ _
  refine wpAny_bind (wpAny_rule (wpAny_bind ?_))
  show wpAny _ A.in1 (updateSeq S (·.push .none) >>= fun _ => updateSeq S (·.pop)) _ _ _
  refine wpAny_bind (wpAny_updateSeq hSo rfl ?_)
  have hS2 := Heap.get?_update_self (Obj.mapSeq (·.push Value.none)) hSo rfl
  refine wpAny_updateSeq (hz := by seq_fits) hS2 rfl ?_
  have hS3 := Heap.get?_update_self (Obj.mapSeq (·.pop)) hS2 rfl
  have oth : ∀ b u, b ≠ S → s.heap.get? b = some u → ((s.heap.update S (Obj.mapSeq (·.push Value.none))).update S (Obj.mapSeq (·.pop))).get? b = some u := fun b u hb e => (Heap.get?_update_other _ _ (Ne.symm hb)).trans ((Heap.get?_update_other _ _ (Ne.symm hb)).trans e)
  obtain ⟨a, b, tO⟩ := hTO
  refine wpAny_pure ⟨plainId_quiet PySem.F.plain_extend_loop _, zl_loop (h₁ := s.heap) hh D hN hS ⟨S1, S2, S3, S4, S5, S6, S7⟩ hn res (fun h' tk Ts c b1 b2 b3 b4 => hR h' tk Ts c ⟨b1, b2, b3, b4⟩) _ 0 _ s.toks _ [] rfl (Nat.zero_le _) (.inl ⟨rfl, oth z _ (Ne.symm S1) hz, a, b, oth TO _ (Ne.symm S3) tO⟩) (oth TI _ (Ne.symm S2) hTI)
    (h1.at fun o e => oth i1 o (Ne.symm S4) e) (h2.at fun o e => oth i2 o (Ne.symm S5) e) (hl1.at fun o e => oth l1 o (Ne.symm S6) e) (hl2.at fun o e => oth l2 o (Ne.symm S7) e) ⟨.nil, fun _ h => absurd h List.not_mem_nil, fun j a h => by simp at h⟩ rfl (by rw [Heap.size_update, Heap.size_update]; exact sz) (fun b u hb _ _ _ _ e => oth b u hb e) hS3⟩
theorem zl_init {R : Result → Shared → Prop} (hh : A.handled = none) (D : ZipApart z TI TO i1 i2 l1 l2) (hN : z < N ∧ TO < N ∧ i1 < N ∧ i2 < N) (hS : S < N) (aS : S ≠ z ∧ S ≠ TI ∧ S ≠ TO ∧ S ≠ i1 ∧ S ≠ i2 ∧ S ≠ l1 ∧ S ≠ l2) (hn : min xs.size ys.size ≤ sizeLine)
    (hz : IsZip s.heap z TI TO .none) (hTI : IsPair s.heap TI (.ref i1) (.ref i2)) (hTO : ∃ a b, IsPair s.heap TO a b) (h1 : s.heap.IsListIter i1 l1 0) (h2 : s.heap.IsListIter i2 l2 0) (hl1 : s.heap.IsList l1 xs) (hl2 : s.heap.IsList l2 ys) (sz : N ≤ s.heap.objs.size)
    (hSo : s.heap.get? S = some { cls := .type "list", data := .seq #[] }) (hR : ∀ h' tk Ts c, ZlPost s.heap xs ys z TO i1 i2 S N h' Ts c → R (.ok (.ret .none)) { s with heap := h', toks := tk }) :
    wpAny (model prog w) A.in1 (Builtin.«list.__init__» ⟨[.ref S, .ref z], []⟩) (fun fin s' => match fin with | .done f => R (.ok f) s' | .again c' => c'.quiet = true ∧ codeAny (model prog w) A c' R s') (fun e s' => R (.error e) s') s := by
  obtain ⟨S1, S2, S3, S4, S5, S6, S7⟩ := aS
  show wpAny _ _ (do let old ← Builtin.List.listItems (.ref S); Builtin.List.listUpdate (.ref S) (fun _ => #[]); letGo old.toList.reverse; Builtin.List.listExtendWith (.ref S) (.ref z) .none) _ _ s
  refine wpAny_bind ?_
  unfold Builtin.List.listItems
  refine wpAny_bind (wpAny_seqItems hSo rfl (wpAny_pure ?_))
  show wpAny _ _ (updateSeq S (fun _ => #[]) >>= fun _ => letGo (#[] : Array Value).toList.reverse >>= fun _ => Builtin.List.listExtendWith (.ref S) (.ref z) .none) _ _ s
  refine wpAny_bind (wpAny_updateSeq hSo rfl ?_)
  have hS2 := Heap.get?_update_self (Obj.mapSeq fun _ => (#[] : Array Value)) hSo rfl
  have oth : ∀ b u, b ≠ S → s.heap.get? b = some u → (s.heap.update S (Obj.mapSeq fun _ => (#[] : Array Value))).get? b = some u := fun b u hb e => (Heap.get?_update_other _ _ (Ne.symm hb)).trans e
  obtain ⟨a, b, tO⟩ := hTO
  refine wpAny_bind (wpAny_letGo ?_)
  exact zl_extend (s := { s with heap := s.heap.update S (Obj.mapSeq fun _ => (#[] : Array Value)) }) hh D hN hS ⟨S1, S2, S3, S4, S5, S6, S7⟩ hn .none _ (oth z _ (Ne.symm S1) hz) (oth TI _ (Ne.symm S2) hTI) ⟨a, b, oth TO _ (Ne.symm S3) tO⟩ (h1.at fun o e => oth i1 o (Ne.symm S4) e) (h2.at fun o e => oth i2 o (Ne.symm S5) e)
    (hl1.at fun o e => oth l1 o (Ne.symm S6) e) (hl2.at fun o e => oth l2 o (Ne.symm S7) e) (by rw [Heap.size_update]; exact sz) hS2 fun h' tk Ts c ⟨b1, b2, b3, b4⟩ => hR h' tk Ts c ⟨fun b u hb q1 q2 q3 q4 e => b1 b u hb q1 q2 q3 q4 (oth b u hb e), b2, b3, b4⟩
/-- list(zip(..)), the zip just laid -/
theorem call_list_zip {Q : Value → Shared → Prop} (hh : A.handled = none) {M : Addr} (hM : s.heap.objs.size = M + 5) (la : l1 < M) (lb : l2 < M) (hn : min xs.size ys.size ≤ sizeLine)
    (hz : IsZip s.heap (M + 4) (M + 2) (M + 3) .none) (hTI : IsPair s.heap (M + 2) (.ref M) (.ref (M + 1))) (hTO : ∃ a b, IsPair s.heap (M + 3) a b) (h1 : s.heap.IsListIter M l1 0) (h2 : s.heap.IsListIter (M + 1) l2 0) (hl1 : s.heap.IsList l1 xs) (hl2 : s.heap.IsList l2 ys)
    (hQ : ∀ h' tk Ts c, (∀ b u, b < M → s.heap.get? b = some u → h'.get? b = some u) → h'.get? (M + 5) = some (seqObj "list" (Ts.map Value.ref).toArray c) → Ts.length = min xs.size ys.size → Outs xs ys (M + 6) h' Ts → Q (.ref (M + 5)) { s with heap := h', toks := tk }) :
    wpAny (model prog w) A (call (.type "list") [.ref (M + 4)]) Q E s := by
  have D := PySem.W.ktu_apart M l1 l2 la lb
  refine callType_codes (Q₁ := fun obj s₁ => obj = .ref s.heap.objs.size ∧ s₁ = { s with heap := s.heap.push { cls := .type "list", data := .seq #[] } }) PySem.F.called_list (PySem.F.typeCall_list_1 _) PySem.F.entry_list_init (code_list_new _ ⟨rfl, rfl⟩) fun obj s₁ hs₁ => ?_
  obtain ⟨rfl, rfl⟩ := hs₁
  have up : ∀ b u, s.heap.get? b = some u → (s.heap.push { cls := .type "list", data := .seq #[] }).get? b = some u := fun b u e => Heap.get?_push_of_some _ e
  have hS : (s.heap.push { cls := .type "list", data := .seq #[] }).get? s.heap.objs.size = some { cls := .type "list", data := .seq #[] } := Heap.get?_push_size _ rfl
  have hsz : (s.heap.push { cls := .type "list", data := .seq #[] }).objs.size = M + 6 := by rw [Heap.size_push, hM]
  obtain ⟨a, b, tO⟩ := hTO
  refine ⟨⟨_, hS, rfl⟩, PySem.F.args_list_init_2 _ _, ?_⟩
  rw [hM] at hS ⊢
  have lt : ∀ k : Nat, k < 6 → M + k < M + 6 := fun k hk => Nat.add_lt_add_left hk M
  have ne : ∀ k : Nat, k < 5 → M + 5 ≠ M + k := fun k hk => Nat.ne_of_gt (Nat.add_lt_add_left hk M)
  have nl : ∀ l : Addr, l < M → M + 5 ≠ l := fun l hl => Nat.ne_of_gt (Nat.lt_of_lt_of_le hl (Nat.le_add_right M 5))
  refine zl_init (s := { s with heap := s.heap.push { cls := .type "list", data := .seq #[] } }) (A := A.in1) (N := M + 6) (S := M + 5) hh D ⟨lt 4 (by decide), lt 3 (by decide), lt 0 (by decide), lt 1 (by decide)⟩ (lt 5 (by decide)) ⟨ne 4 (by decide), ne 2 (by decide), ne 3 (by decide), ne 0 (by decide), ne 1 (by decide), nl _ la, nl _ lb⟩ hn
    (up _ _ hz) (up _ _ hTI) ⟨a, b, up _ _ tO⟩ (h1.at fun o e => up _ o e) (h2.at fun o e => up _ o e) (hl1.at fun o e => up _ o e) (hl2.at fun o e => up _ o e) (Nat.le_of_eq hsz.symm) hS fun h' tk Ts c ⟨b1, b2, b3, b4⟩ => ⟨rfl, hQ h' tk Ts c (fun b u (hb : (b : Nat) < M) e => ?_) b2 b3 b4⟩
  have q : ∀ k : Nat, b ≠ M + k := fun k => Nat.ne_of_lt (Nat.lt_of_lt_of_le hb (Nat.le_add_right M k))
  exact b1 b u (q 5) (q 4) (q 3) (q 0) (q 1) (up b u e)
end
end MM

namespace MM
open PySem PySem.Spec L2 PyProof.Rows

/-! ### list(zip(xs, ys)), as an expression -/
def addP : List Addr → List V → List V → Hp → Hp
  | T :: Ts, x :: xs, y :: ys, H => addP Ts xs ys (upd H T (.tup [x, y]))
  | _, _, _, H => H
theorem addP_other : ∀ {Ts : List Addr} {xs ys : List V} {H : Hp} {b : Addr}, b ∉ Ts → addP Ts xs ys H b = H b
  | T :: Ts, x :: xs, y :: ys, H, b, h => by
    simp only [List.mem_cons, not_or] at h
    rw [addP, addP_other h.2, upd_ne h.1]
  | [], _, _, _, _, _ => rfl
  | _ :: _, [], _, _, _, _ => rfl
  | _ :: _, _ :: _, [], _, _, _ => rfl
theorem addP_at : ∀ {Ts : List Addr} {xs ys : List V} {H : Hp} {j : Nat} {T : Addr} {x y : V}, Ts.Pairwise (· < ·) → Ts[j]? = some T → xs[j]? = some x → ys[j]? = some y → addP Ts xs ys H T = some (.tup [x, y])
  | U :: Ts, a :: xs, b :: ys, H, 0, T, x, y, p, e1, e2, e3 => by
    simp only [List.getElem?_cons_zero, Option.some.injEq] at e1 e2 e3
    subst e1 e2 e3
    rw [addP, addP_other (fun z => Nat.lt_irrefl _ ((List.pairwise_cons.mp p).1 _ z)), upd_same]
  | U :: Ts, a :: xs, b :: ys, H, j + 1, T, x, y, p, e1, e2, e3 => by
    simp only [List.getElem?_cons_succ] at e1 e2 e3
    rw [addP]
    exact addP_at (List.pairwise_cons.mp p).2 e1 e2 e3
  | [], _, _, _, _, _, _, _, _, e1, _, _ => by simp at e1
  | _ :: _, [], _, _, _, _, _, _, _, _, e2, _ => by simp at e2
  | _ :: _, _ :: _, [], _, _, _, _, _, _, _, _, e3 => by simp at e3
def tLZ (K : PySem.W.Frag) (ta : TA) : TE := fun σ H Q => ta σ H fun vs H1 => ∃ l1 l2 xs ys, vs = [.ref l1, .ref l2] ∧ SqL K H1 l1 xs ∧ SqL K H1 l2 ys ∧
  ∀ (p : Addr) (Ts : List Addr), Ts.length = min xs.length ys.length → Ts.Pairwise (· < ·) → (∀ T ∈ Ts, p < T ∧ H1 T = none) → H1 p = none → Q (.ref p) (upd (addP Ts xs ys H1) p (.lst (Ts.map V.ref)))
theorem vals_get {vs : List V} {us : List Value} (r : Vals vs us) : ∀ {j : Nat} {u : Value}, us[j]? = some u → ∃ v, vs[j]? = some v ∧ RelV v u := by
  induction r with
  | nil => intro j u h; simp at h
  | cons a r ih =>
    intro j u h
    cases j with
    | zero => simp only [List.getElem?_cons_zero, Option.some.injEq] at h; subst h; exact ⟨_, rfl, a⟩
    | succ j => exact ih (by simpa using h)
theorem vals_refs : ∀ {Ts : List Addr}, Vals (Ts.map V.ref) (Ts.map Value.ref)
  | [] => .nil
  | T :: Ts => .cons rfl vals_refs
section
variable {X : Cx} {tb : Tb} {W : WX} {pos : Pos}
theorem lz_inv {pins : List (Addr × Obj)} {σ : L2.St} {H : Hp} {s : Shared} (I : Inv X pins σ H s) {h' : Heap} {tk : Nat} {p : Addr} {Ts : List Addr} {xs ys : List V} {us ws : List Value} {c : Nat} (rx : Vals xs us) (ry : Vals ys ws)
    (k : ∀ b u, s.heap.get? b = some u → h'.get? b = some u) (hp : s.heap.objs.size ≤ p) (hs : h'.get? p = some (seqObj "list" (Ts.map Value.ref).toArray c)) (hl : Ts.length = min us.length ws.length)
    (o : Outs us.toArray ws.toArray (p + 1) h' Ts) (hz : Ts.length ≤ sizeLine) : Inv X pins σ (upd (addP Ts xs ys H) p (.lst (Ts.map V.ref))) { s with heap := h', toks := tk } := by
  have oldT : ∀ b, b < s.heap.objs.size → b ∉ Ts := fun b hb z => absurd (Nat.lt_of_lt_of_le (Nat.lt_of_lt_of_le hb hp) (Nat.le_of_succ_le (o.above b z))) (Nat.lt_irrefl _)
  have old : ∀ b, b < s.heap.objs.size → upd (addP Ts xs ys H) p (.lst (Ts.map V.ref)) b = H b := fun b hb => by
    rw [upd_ne (Nat.ne_of_lt (Nat.lt_of_lt_of_le hb hp)), addP_other (oldT b hb)]
  have og : ∀ b u, H b = some u → upd (addP Ts xs ys H) p (.lst (Ts.map V.ref)) b = some u := fun b u e => (old b (I.hok.lt e)).trans e
  refine I.un ⟨fun b ob e _ _ _ => k b ob e, fun b ob e _ _ _ => ⟨ob.slots, k b ob e⟩, fun b ob e n _ => (old b (Heap.lt_size e)).trans n, fun b ob e _ => ⟨ob, k b ob e⟩, fun b xs e => og b _ e, fun b o u e => og b _ e, fun b ps e => ⟨#[], by rw [og b _ e]; simp⟩⟩ fun b u e => ?_
  by_cases hb : b = p
  · subst hb
    rw [upd_same] at e
    cases e
    exact ⟨by rw [List.length_map]; exact hz, _, c, vals_refs, hs⟩
  · by_cases hT : b ∈ Ts
    · obtain ⟨j, hj⟩ := List.mem_iff_getElem?.mp hT
      obtain ⟨u1, u2, e1, e2, pr⟩ := o.pairs j b hj
      obtain ⟨x, hx, r1⟩ := vals_get rx (by simpa using e1)
      obtain ⟨y, hy, r2⟩ := vals_get ry (by simpa using e2)
      rw [upd_ne hb, addP_at o.rise hj hx hy] at e
      cases e
      exact ⟨by show 2 ≤ sizeLine; decide, [u1, u2], .cons r1 (.cons r2 .nil), ⟨_, pr, rfl, _, rfl⟩⟩
    · rw [upd_ne hb, addP_other hT] at e
      exact (I.hok b u e).stay (fun d v _ q => k d v q) (fun d q => og d _ q) fun d ws q => og d _ q
theorem pe_listzip {e e2 : Expr} {ta : TA} {p0 p pos2 : Pos} (hc : X.calm = true) (hgl : Gl X "list") (hml : X.mg "list" = none) (hg : Gl X "zip") (hm : X.mg "zip" = none) (ha : PA X [e, e2] ta)
    (hs1 : starEach [.Call (.Name "zip" p) [e, e2] [] pos2] X.env = [(false, eval (.Call (.Name "zip" p) [e, e2] [] pos2) X.env)] := by rfl)
    (hs : starEach [e, e2] X.env = (false, eval e X.env) :: starEach [e2] X.env := by rfl) (hpl : (backTo pos2 (starEach [e2] X.env)).any (·.1) = false := by rfl) :
    PE X (.Call (.Name "list" p0) [.Call (.Name "zip" p) [e, e2] [] pos2] [] pos) (tLZ X.K ta) := by
  refine ⟨fun pins s0 σ H Q I h => ?_⟩
  refine wpAny_Call_Name_kw (ld_blt I hgl hml PyProof.Rows.boot_list (PyProof.Rows.callWith_type1 ?_ hs1 rfl))
  rw [hs1]
  refine Calls.spliced_cons ?_
  refine wpAny_Call_Name_kw (ld_blt I hg hm PyProof.Rows.boot_zip (PyProof.Rows.callWith_type1 (thn (ha.run pos2 pins s0 σ H _ I h) fun us s1 ⟨vs, Ha, Ia, rv, l1, l2, xs, ys, ev, src1, src2, q⟩ => ?_) hs hpl))
  subst ev
  obtain ⟨u1, u2, rfl, r1, r2⟩ : ∃ u1 u2, us = [u1, u2] ∧ RelV (.ref l1) u1 ∧ RelV (.ref l2) u2 := by
    cases rv with
    | cons a b =>
      cases b with
      | cons c d =>
        cases d
        exact ⟨_, _, rfl, a, c⟩
  obtain rfl : u1 = Value.ref l1 := r1
  obtain rfl : u2 = Value.ref l2 := r2
  have S1 : Src X.K Ha 0 (.ref l1) xs := ⟨l1, rfl, src1⟩
  have S2 : Src X.K Ha 0 (.ref l2) ys := ⟨l2, rfl, src2⟩
  obtain ⟨H1, B1, c1, st1⟩ := src_begins (k := 0) Ia S1 rfl
  obtain ⟨H2, B2, c2, _⟩ := src_begins (k := 0) Ia S2 rfl
  have a1 := src_lt (k := 0) Ia S1 rfl l1 rfl
  have a2 := src_lt (k := 0) Ia S2 rfl l2 rfl
  obtain ⟨its1, v1, p1, z1⟩ := Ia.list src1
  obtain ⟨its2, v2, p2, z2⟩ := Ia.list src2
  refine zip_begins2 B1 B2 c1 c2 fun h' hz hTI hTO o1 o2 hsz kp => ?_
  refine Calls.spliced_nil ?_
  refine call_list_zip (s := { s1 with heap := h' }) (M := s1.heap.objs.size) (l1 := l1) (l2 := l2) (xs := its1.toArray) (ys := its2.toArray) (Ia.ok.hd hc) hsz a1 a2 ?_ hz hTI ⟨_, _, hTO⟩ ?_ ?_ ?_ ?_ fun h2 tk Ts c kp2 hS hl ho => ?_
  · show min its1.length its2.length ≤ sizeLine
    rw [← v1.length]
    exact Nat.le_trans (Nat.min_le_left _ _) z1
  · exact ⟨_, o1, rfl, rfl⟩
  · exact ⟨_, o2, rfl, rfl⟩
  · exact p1.isList.at fun o e => kp _ o e
  · exact p2.isList.at fun o e => kp _ o e
  · have hl' : Ts.length = min xs.length ys.length := by
      rw [hl, v1.length, v2.length]
      rfl
    refine ⟨.ref (s1.heap.objs.size + 5), _, lz_inv (p := s1.heap.objs.size + 5) (tk := tk) (xs := xs) (ys := ys) Ia v1 v2 (fun b u e => kp2 b u (Heap.lt_size e) (kp b u e)) (Nat.le_add_right _ _) hS hl ho (by rw [hl']; exact Nat.le_trans (Nat.min_le_left _ _) z1), rfl,
      q _ Ts hl' ho.rise (fun T hT => ⟨ho.above T hT, Ia.hok.fresh (Nat.le_trans (Nat.le_add_right _ 6) (ho.above T hT))⟩) (Ia.hok.fresh (Nat.le_add_right _ _))⟩
theorem addP_er {p : Pg} {g : Gh} {σ : L2.St} {env : Env} : ∀ {Ts : List Addr} {as bs : List D} {xs ys : List V} {H : Hp}, ER p g σ env H → RepL p g.C H as xs → RepL p g.C H bs ys → Ts.length = min xs.length ys.length → Ts.Pairwise (· < ·) → (∀ T ∈ Ts, H T = none) →
    Step p g.C H (addP Ts xs ys H) ∧ RepL p g.C (addP Ts xs ys H) (zipL as bs) (Ts.map V.ref)
  | [], as, bs, xs, ys, H, E, ra, rb, hl, _, _ => by
    rw [addP]
    refine ⟨E.refl, ?_⟩
    have : zipL as bs = [] := List.eq_nil_of_length_eq_zero (by rw [zipL_len, ← ra.length, ← rb.length, ← hl]; rfl)
    rw [this]
    exact RepL.nil
    intro _ _ _ _ _ _ z; cases z
  | T :: Ts, [], bs, xs, ys, H, E, ra, rb, hl, _, _ => by
    have h1 := ra.length
    simp only [List.length_nil] at h1
    rw [h1] at hl
    simp at hl
  | T :: Ts, a :: as, [], xs, ys, H, E, ra, rb, hl, _, _ => by
    have h1 := rb.length
    simp only [List.length_nil] at h1
    rw [h1] at hl
    simp at hl
  | T :: Ts, a :: as, b :: bs, xs, ys, H, E, ra, rb, hl, hp, hf => by
    simp only [RepL] at ra rb
    obtain ⟨x, xs, rfl, r1, ra⟩ := ra
    obtain ⟨y, ys, rfl, r2, rb⟩ := rb
    have hT := hf T List.mem_cons_self
    have s1 := E.alloc (o := .tup [x, y]) hT
    have E1 := E.step s1
    have m := E.mv s1
    obtain ⟨s2, rr⟩ := addP_er (Ts := Ts) E1 (ra.mv m) (rb.mv m) (by simp only [List.length_cons] at hl; omega) (List.pairwise_cons.mp hp).2 fun U hU => by
      rw [upd_ne (Nat.ne_of_gt ((List.pairwise_cons.mp hp).1 U hU))]
      exact hf U (List.mem_cons_of_mem _ hU)
    rw [addP]
    refine ⟨s1.trans s2, ?_⟩
    show RepL _ _ _ (.tup [a, b] :: zipL as bs) (V.ref T :: Ts.map V.ref)
    refine RepL.cons ?_ rr
    refine Rep.mv (E1.mv s2) (H := upd H T (.tup [x, y])) ?_
    simp only [Rep]
    exact ⟨T, [x, y], rfl, .inl (.inl upd_same), by simp [size16], RepL.cons (r1.mv m) (RepL.cons (r2.mv m) RepL.nil)⟩
def lzD : List D → Option D
  | [.lst xs, .lst ys] => some (.lst (zipL xs ys))
  | _ => none
theorem qo_listzip {e e2 : Expr} {p0 p pos2 : Pos} {f f2 : Env → T D} (hc : X.calm = true) (hgl : Gl X "list") (hml : X.mg "list" = none) (hg : Gl X "zip") (hm : X.mg "zip" = none) (h1 : QP X tb W e f) (h2 : QP X tb W e2 f2)
    (hs1 : starEach [.Call (.Name "zip" p) [e, e2] [] pos2] X.env = [(false, eval (.Call (.Name "zip" p) [e, e2] [] pos2) X.env)] := by rfl)
    (hs : starEach [e, e2] X.env = (false, eval e X.env) :: starEach [e2] X.env := by rfl) (hs2 : starEach [e2] X.env = [(false, eval e2 X.env)] := by rfl) (hpl : (backTo pos2 (starEach [e2] X.env)).any (·.1) = false := by rfl) :
    QO X tb W (.Call (.Name "list" p0) [.Call (.Name "zip" p) [e, e2] [] pos2] [] pos) (eCall lzD (aCons f (aCons f2 aNil))) := by
  obtain ⟨t, p1, i1⟩ := (qap_cons h1 (qap_cons h2 qap_nil hs2) hs).ex
  refine ⟨_, pe_listzip hc hgl hml hg hm p1 hs1 hs hpl, fun g σ env H Q E hw => ?_⟩
  unfold eCall at hw
  rw [T.wp_bind] at hw
  refine i1 g σ env H _ E (T.wp_mono (fun xs q vs H1 s1 r1 => ?_) (fun _ z => z) hw)
  have E1 := E.step s1
  unfold lzD at q
  split at q
  · rename_i as bs
    simp only [RepPs] at r1
    obtain ⟨v, ws, rfl, ⟨l1, xs, rfl, _, ea, la, ra⟩, w, us, rfl, ⟨l2, ys, rfl, _, eb, lb, rb⟩, rfl⟩ := r1
    refine ⟨l1, l2, xs, ys, rfl, .inl ea, .inl eb, fun l Ts hl hp hT hlf => ?_⟩
    obtain ⟨s2, rr⟩ := addP_er E1 ra rb hl hp fun T z => (hT T z).2
    have E2 := E1.step s2
    have hlf2 : addP Ts xs ys H1 l = none := by
      rw [addP_other fun z => Nat.lt_irrefl _ (hT l z).1]
      exact hlf
    obtain ⟨n0, h0⟩ := E2.free0 hlf2
    refine q l _ ((s1.trans s2).trans (E2.alloc hlf2)) (E2.float hlf2) n0 h0 ((s1.trans s2).free hlf2) ⟨_, upd_same, ?_, rr.mv (E2.mvFloat hlf2)⟩
    rw [zipL_len]
    exact Nat.le_trans (Nat.min_le_left _ _) la
  · exact q.elim
end
end MM

namespace MM
open PySem PySem.Spec L2

/-! ### dict(NAME), the name a module's tuple of pairs -/
/-- the module's name x stands for an object with no dict of its own -/
def BareAt (K : PySem.W.Frag) (mg : Str → Option Value) (x : Str) : Prop := ∃ a o, mg x = some (.ref a) ∧ K.lookup a = some o ∧ o.dict = none
def bareB (K : PySem.W.Frag) (x : Str) : Bool := match PySem.W.nsIn K mainGlobals x with
  | some (some (.ref a)) => match K.lookup a with
    | some o => o.dict.isNone
    | none => false
  | _ => false
theorem bare_ok {K : PySem.W.Frag} {mg : Str → Option Value} {h : Heap} {x : Str} (X : K.In h) (G : h.Ns mainGlobals mg) (c : bareB K x = true) : BareAt K mg x := by
  unfold bareB at c
  split at c
  · rename_i a e
    split at c
    · rename_i o ho
      exact ⟨a, o, PySem.W.mg_of X G e, ho, by simpa using c⟩
    · cases c
  · cases c
section
variable {X : Cx} {tb : Tb} {W : WX} {pos : Pos}
theorem pairs_of2 {pins : List (Addr × Obj)} {σ : L2.St} {H : Hp} {s : Shared} (I : Inv X pins σ H s) : ∀ {ps : List Addr} {kvs : List (Key × V)}, Paired (fun p kv => SqT X.K H p [kV kv.1, kv.2]) ps kvs →
    ∃ (prs : List (Key × Value)) (pv : List (Value × Value)), KV kvs prs ∧ prs.length = ps.length ∧ pv.length = ps.length ∧ ∀ (j : Nat) (k v : Value), pv[j]? = some (k, v) → ∃ (b : Addr) (key : Key), ps[j]? = some b ∧ s.heap.IsTuple b #[k, v] ∧ prs[j]? = some (key, v) ∧ (mixKind X.prog X.w).is key k = true
  | _, _, .nil => ⟨[], [], .nil, rfl, rfl, fun j k v e => by simp at e⟩
  | _, _, .cons (a := p) (b := kv) h t => by
    obtain ⟨prs, pv, r, hl, hl2, hp⟩ := pairs_of2 I t
    obtain ⟨its, rv, ht, _⟩ := I.tuple h
    obtain ⟨u, y, ei, ru, ry⟩ := vals2 rv
    subst ei
    refine ⟨(kv.1, y) :: prs, (u, y) :: pv, .cons ⟨rfl, ry⟩ r, by rw [List.length_cons, List.length_cons, hl], by rw [List.length_cons, List.length_cons, hl2], fun j k v e => ?_⟩
    cases j with
    | zero =>
      simp only [List.getElem?_cons_zero, Option.some.injEq, Prod.mk.injEq] at e
      obtain ⟨rfl, rfl⟩ := e
      exact ⟨p, kv.1, rfl, ht, rfl, kV_is ru⟩
    | succ j => exact hp j k v (by simpa using e)
theorem call_dictC (hcalm : X.calm = true) : CallR X (.type "dict") (fun xs H Q => ∃ (a : Addr) (o : Obj) (ps : List Addr) (kvs : List (Key × V)), xs = [.ref a] ∧ X.K.lookup a = some o ∧ o.dict = none ∧ SqT X.K H a (ps.map V.ref) ∧ Paired (fun p kv => SqT X.K H p [kV kv.1, kv.2]) ps kvs ∧
    ∀ p, H p = none → Q (.ref p) (upd H p (.dK (mergeK [] kvs)))) := by
  intro pins s σ H xs us Q I r q
  obtain ⟨a, o, ps, kvs, ex, hk, hnd, hq, hp, q⟩ := q
  subst ex
  obtain ⟨u, eu, rx⟩ := vals1 r
  subst eu
  cases rx
  obtain ⟨its, rv, ⟨o', ho', hc, n, hdat⟩, hz⟩ := I.tuple hq
  have ho := I.kIn _ _ hk
  rw [ho] at ho'
  cases ho'
  have ei := refs_at rv
  subst ei
  rw [List.length_map] at hz
  obtain ⟨prs, pv, rel, hl, hl2, hpr⟩ := pairs_of2 I hp
  refine call_dict_pairs (knd := mixKind X.prog X.w) (kvs := prs) (PairArg.tuple a (ps.map Value.ref).toArray (fun j => (ps[j]?).getD 0) pv) (I.ok.hd hcalm) ⟨⟨o, n, ho, hc, hnd, hdat⟩, by simp [hl2], fun j k v e => ?_⟩ ⟨by rw [hl, hl2], fun j k v e => ?_⟩ (by rw [hl2]; exact hz) fun h' tk hd' kp => ?_
  · obtain ⟨b, key, e1, e2, _, _⟩ := hpr j k v e
    exact ⟨by simp [e1], .inl (by show s.heap.IsTuple ((ps[j]?).getD 0) _; rw [e1]; exact e2)⟩
  · obtain ⟨b, key, _, _, e3, e4⟩ := hpr j k v e
    exact ⟨key, e3, e4⟩
  · have hm : (s.heap.objs.size == sysModules) = false := beq_eq_false_iff_ne.mpr (Nat.ne_of_gt I.big)
    have hlen : (mergeK [] kvs).length ≤ sizeLine := by
      refine Nat.le_trans (length_mergeK kvs []) ?_
      rw [List.length_nil, Nat.zero_add, rel.length, hl]
      exact hz
    exact ⟨.ref s.heap.objs.size, upd H s.heap.objs.size (.dK (mergeK [] kvs)), I.laid (t' := tk) (fun b o e => kp b o List.not_mem_nil e) (Nat.le_refl _) (show ObjOk X.prog X.w _ _ _ (.dK (mergeK [] kvs)) from ⟨hlen, hm, merged [] prs, KV.merge rel .nil, hd'⟩), rfl, q _ (I.hok.fresh (Nat.le_refl _))⟩
theorem pairsD_len : ∀ {ds : List D} {kvs : List (D × D)}, pairsD ds = some kvs → kvs.length = ds.length
  | [], kvs, h => by cases h; rfl
  | d :: ds, kvs, h => by
    unfold pairsD at h
    split at h
    · rename_i e; cases e
    · rename_i k d' rest e
      cases e
      simp only [Option.map_eq_some_iff] at h
      obtain ⟨ks, q1, rfl⟩ := h
      rw [List.length_cons, List.length_cons, pairsD_len q1]
    · cases h
theorem qo_dictC {x : Str} {p p2 : Pos} {ds : List D} {kvs : List (D × D)} (hc : X.calm = true) (hg : Gl X "dict") (hm : X.mg "dict" = none) (kc : ConAt X.K X.mg x (.tup ds)) (kb : BareAt X.K X.mg x) (hp : pairsD ds = some kvs) (hk : keysOk kvs = true)
    (hgx : Gl X x := by rfl) (hd : (x == ("__debug__" : Str)) = false := by decide) :
    QO X tb W (.Call (.Name "dict" p) [.Name x p2] [] pos) (eC (.dic (mergeD [] kvs))) := by
  obtain ⟨v, u, h1, h2, h3⟩ := kc
  obtain ⟨a, o, b1, b2, b3⟩ := kb
  rw [h1] at b1
  cases b1
  obtain rfl : v = .ref a := by
    have r := h3 tb (fun _ => False) (fun _ => none)
    simp only [Rep] at r
    obtain ⟨c, vs, rfl, _⟩ := r
    cases h2
    rfl
  refine ⟨_, pe_callTy (call_dictC hc) hg hm (by decide +kernel) (pa_cons (pe_glob (v := .ref a) hgx h1 rfl hd) pa_nil) (by decide) (by decide) rfl rfl, fun g σ env H Q E hw => ?_⟩
  have r := h3 tb g.C H
  simp only [Rep] at r
  obtain ⟨c, vs, e, sq, la, ra⟩ := r
  cases e
  obtain ⟨as, kws, rfl, pr, rk⟩ := pairs_rep hp hk ra
  refine ⟨a, o, as, kws, rfl, b2, b3, sq, pr, fun l hl => ?_⟩
  obtain ⟨n0, h0⟩ := E.free0 hl
  obtain ⟨m1, m2⟩ := RepK.merge (acc := []) (aws := []) rk (by simp [RepK]) rfl
  refine hw l _ (E.alloc hl) (E.float hl) n0 h0 (nOb hl) ⟨_, upd_same, ⟨Nat.le_trans mergeD_len ?_, m2⟩, RepK.mv (E.mvFloat hl) m1⟩
  have := pairsD_len hp
  rw [List.length_nil, Nat.zero_add, this]
  exact la
end
end MM

namespace Lk44
open PySem PySem.Spec L2 MM
def topS (i : Nat) : Stmt := PySem.Challenge.pw_orderloom_k44_whole_names_of_shapes.main.body.getD i (.Pass ⟨0, 0, 0, 0⟩)

/-! ### the text -/
abbrev s_is_tuple_of : Stmt := topS 9
abbrev N_is_tuple_of : List Str := ["value", "low", "high"]
theorem sc_is_tuple_of : FnScope N_is_tuple_of ["value", "low", "high"] (defScope s_is_tuple_of) := ⟨rfl, rfl, rfl, by decide +kernel, rfl, by decide +kernel, by decide +kernel⟩
abbrev s_is_name : Stmt := topS 10
abbrev N_is_name : List Str := ["value", "sign"]
theorem sc_is_name : FnScope N_is_name ["value"] (defScope s_is_name) := ⟨rfl, rfl, rfl, by decide +kernel, rfl, by decide +kernel, by decide +kernel⟩
abbrev s_fits_condition : Stmt := topS 15
abbrev N_fits_condition : List Str := ["value"]
theorem sc_fits_condition : FnScope N_fits_condition ["value"] (defScope s_fits_condition) := ⟨rfl, rfl, rfl, by decide +kernel, rfl, by decide +kernel, by decide +kernel⟩
abbrev s_need_condition : Stmt := topS 16
abbrev N_need_condition : List Str := ["value"]
theorem sc_need_condition : FnScope N_need_condition ["value"] (defScope s_need_condition) := ⟨rfl, rfl, rfl, by decide +kernel, rfl, by decide +kernel, by decide +kernel⟩
abbrev s_conditions : Stmt := topS 18
abbrev N_conditions : List Str := []
theorem sc_conditions : FnScope N_conditions [] (defScope s_conditions) := ⟨rfl, rfl, rfl, by decide +kernel, rfl, by decide +kernel, by decide +kernel⟩
abbrev s_word_of : Stmt := topS 21
abbrev N_word_of : List Str := ["condition"]
theorem sc_word_of : FnScope N_word_of ["condition"] (defScope s_word_of) := ⟨rfl, rfl, rfl, by decide +kernel, rfl, by decide +kernel, by decide +kernel⟩
abbrev s_sort_of : Stmt := topS 22
abbrev N_sort_of : List Str := ["kind"]
theorem sc_sort_of : FnScope N_sort_of ["kind"] (defScope s_sort_of) := ⟨rfl, rfl, rfl, by decide +kernel, rfl, by decide +kernel, by decide +kernel⟩
abbrev s_row_lets : Stmt := topS 23
abbrev N_row_lets : List Str := ["word", "sorts", "many", "pairs", "one", "other"]
theorem sc_row_lets : FnScope N_row_lets ["word", "sorts"] (defScope s_row_lets) := ⟨rfl, rfl, rfl, by decide +kernel, rfl, by decide +kernel, by decide +kernel⟩
abbrev s_forbids_kinds : Stmt := topS 24
abbrev N_forbids_kinds : List Str := ["condition", "kinds", "sorts", "word", "kind"]
theorem sc_forbids_kinds : FnScope N_forbids_kinds ["condition", "kinds"] (defScope s_forbids_kinds) := ⟨rfl, rfl, rfl, by decide +kernel, rfl, by decide +kernel, by decide +kernel⟩
abbrev s_are_kinds : Stmt := topS 25
abbrev N_are_kinds : List Str := ["value", "kind"]
theorem sc_are_kinds : FnScope N_are_kinds ["value"] (defScope s_are_kinds) := ⟨rfl, rfl, rfl, by decide +kernel, rfl, by decide +kernel, by decide +kernel⟩
abbrev s_forbidding : Stmt := topS 26
abbrev N_forbidding : List Str := ["kinds", "condition"]
theorem sc_forbidding : FnScope N_forbidding ["kinds"] (defScope s_forbidding) := ⟨rfl, rfl, rfl, by decide +kernel, rfl, by decide +kernel, by decide +kernel⟩
abbrev s_fits_pair : Stmt := topS 30
abbrev N_fits_pair : List Str := ["value"]
theorem sc_fits_pair : FnScope N_fits_pair ["value"] (defScope s_fits_pair) := ⟨rfl, rfl, rfl, by decide +kernel, rfl, by decide +kernel, by decide +kernel⟩
abbrev s_fits_shape : Stmt := topS 31
abbrev N_fits_shape : List Str := ["value", "pair"]
theorem sc_fits_shape : FnScope N_fits_shape ["value"] (defScope s_fits_shape) := ⟨rfl, rfl, rfl, by decide +kernel, rfl, by decide +kernel, by decide +kernel⟩
abbrev s_name_with_one : Stmt := topS 32
abbrev N_name_with_one : List Str := ["shape", "kinds", "ahead"]
theorem sc_name_with_one : FnScope N_name_with_one ["shape", "kinds"] (defScope s_name_with_one) := ⟨rfl, rfl, rfl, by decide +kernel, rfl, by decide +kernel, by decide +kernel⟩
abbrev s_name_in : Stmt := topS 33
abbrev N_name_in : List Str := ["shape", "kinds", "kind", "key", "aheads", "ahead"]
theorem sc_name_in : FnScope N_name_in ["shape"] (defScope s_name_in) := ⟨rfl, rfl, rfl, by decide +kernel, rfl, by decide +kernel, by decide +kernel⟩
abbrev s_need_name : Stmt := topS 34
abbrev N_need_name : List Str := ["name", "row"]
theorem sc_need_name : FnScope N_need_name ["name"] (defScope s_need_name) := ⟨rfl, rfl, rfl, by decide +kernel, rfl, by decide +kernel, by decide +kernel⟩
abbrev s_ring_names : Stmt := topS 35
abbrev N_ring_names : List Str := ["row"]
theorem sc_ring_names : FnScope N_ring_names [] (defScope s_ring_names) := ⟨rfl, rfl, rfl, by decide +kernel, rfl, by decide +kernel, by decide +kernel⟩
abbrev s_is_shape : Stmt := topS 36
abbrev N_is_shape : List Str := ["value"]
theorem sc_is_shape : FnScope N_is_shape ["value"] (defScope s_is_shape) := ⟨rfl, rfl, rfl, by decide +kernel, rfl, by decide +kernel, by decide +kernel⟩
abbrev s_name_of : Stmt := topS 37
abbrev N_name_of : List Str := ["shape"]
theorem sc_name_of : FnScope N_name_of ["shape"] (defScope s_name_of) := ⟨rfl, rfl, rfl, by decide +kernel, rfl, by decide +kernel, by decide +kernel⟩
abbrev s_against : Stmt := topS 38
abbrev N_against : List Str := ["name", "kinds", "word"]
theorem sc_against : FnScope N_against ["name"] (defScope s_against) := ⟨rfl, rfl, rfl, by decide +kernel, rfl, by decide +kernel, by decide +kernel⟩
abbrev s_gap_names : Stmt := topS 39
abbrev N_gap_names : List Str := ["one", "other", "found", "name", "samples", "kinds"]
theorem sc_gap_names : FnScope N_gap_names ["one", "other"] (defScope s_gap_names) := ⟨rfl, rfl, rfl, by decide +kernel, rfl, by decide +kernel, by decide +kernel⟩
abbrev s__law_cup : Stmt := topS 41
abbrev N__law_cup : List Str := ["script", "cell"]
theorem sc__law_cup : FnScope N__law_cup ["script"] (defScope s__law_cup) := ⟨rfl, rfl, rfl, by decide +kernel, rfl, by decide +kernel, by decide +kernel⟩
abbrev s__law_roll : Stmt := topS 42
abbrev N__law_roll : List Str := ["cup", "many", "found", "deep"]
theorem sc__law_roll : FnScope N__law_roll ["cup", "many"] (defScope s__law_roll) := ⟨rfl, rfl, rfl, by decide +kernel, rfl, by decide +kernel, by decide +kernel⟩
abbrev s__law_some : Stmt := topS 43
abbrev N__law_some : List Str := ["cup", "things"]
theorem sc__law_some : FnScope N__law_some ["cup", "things"] (defScope s__law_some) := ⟨rfl, rfl, rfl, by decide +kernel, rfl, by decide +kernel, by decide +kernel⟩
abbrev s__law_sort : Stmt := topS 44
abbrev N__law_sort : List Str := ["value"]
theorem sc__law_sort : FnScope N__law_sort ["value"] (defScope s__law_sort) := ⟨rfl, rfl, rfl, by decide +kernel, rfl, by decide +kernel, by decide +kernel⟩
abbrev s__law_like : Stmt := topS 45
abbrev N__law_like : List Str := ["one", "other", "sort", "first", "second"]
theorem sc__law_like : FnScope N__law_like ["one", "other"] (defScope s__law_like) := ⟨rfl, rfl, rfl, by decide +kernel, rfl, by decide +kernel, by decide +kernel⟩
abbrev s__law_name : Stmt := topS 46
abbrev N__law_name : List Str := ["cup", "taken", "letters", "digits", "turn", "name", "more", "number"]
theorem sc__law_name : FnScope N__law_name ["cup", "taken"] (defScope s__law_name) := ⟨rfl, rfl, rfl, by decide +kernel, rfl, by decide +kernel, by decide +kernel⟩
abbrev s__law_names : Stmt := topS 47
abbrev N__law_names : List Str := ["cup", "many", "found", "turn"]
theorem sc__law_names : FnScope N__law_names ["cup", "many"] (defScope s__law_names) := ⟨rfl, rfl, rfl, by decide +kernel, rfl, by decide +kernel, by decide +kernel⟩
abbrev s__law_conditions : Stmt := topS 48
abbrev N__law_conditions : List Str := ["words", "word"]
theorem sc__law_conditions : FnScope N__law_conditions [] (defScope s__law_conditions) := ⟨rfl, rfl, rfl, by decide +kernel, rfl, by decide +kernel, by decide +kernel⟩
abbrev s__law_forbids : Stmt := topS 49
abbrev N__law_forbids : List Str := ["condition", "kinds", "word", "sorts", "kind", "ahead", "at", "one"]
theorem sc__law_forbids : FnScope N__law_forbids ["condition", "kinds"] (defScope s__law_forbids) := ⟨rfl, rfl, rfl, by decide +kernel, rfl, by decide +kernel, by decide +kernel⟩
abbrev s__law_shape_name : Stmt := topS 50
abbrev N__law_shape_name : List Str := ["shape", "kinds", "pair", "overs", "agains", "at", "ahead"]
theorem sc__law_shape_name : FnScope N__law_shape_name ["shape"] (defScope s__law_shape_name) := ⟨rfl, rfl, rfl, by decide +kernel, rfl, by decide +kernel, by decide +kernel⟩
abbrev s__law_error : Stmt := topS 51
abbrev N__law_error : List Str := ["call"]
theorem sc__law_error : FnScope N__law_error ["call"] (defScope s__law_error) := ⟨rfl, rfl, rfl, by decide +kernel, rfl, by decide +kernel, by decide +kernel⟩
abbrev s__law_rows : Stmt := topS 52
abbrev N__law_rows : List Str := ["most", "found", "last", "many", "longer", "row", "kind"]
theorem sc__law_rows : FnScope N__law_rows ["most"] (defScope s__law_rows) := ⟨rfl, rfl, rfl, by decide +kernel, rfl, by decide +kernel, by decide +kernel⟩
abbrev s__law_keyed : Stmt := topS 53
abbrev N__law_keyed : List Str := ["cup", "kinds", "keys", "kind"]
theorem sc__law_keyed : FnScope N__law_keyed ["cup", "kinds", "keys"] (defScope s__law_keyed) := ⟨rfl, rfl, rfl, by decide +kernel, rfl, by decide +kernel, by decide +kernel⟩
abbrev s__law_told : Stmt := topS 54
abbrev N__law_told : List Str := ["shape", "name", "kinds", "pair", "due", "word", "strict"]
theorem sc__law_told : FnScope N__law_told ["shape"] (defScope s__law_told) := ⟨rfl, rfl, rfl, by decide +kernel, rfl, by decide +kernel, by decide +kernel⟩
abbrev s__law_all_names : Stmt := topS 56
abbrev N__law_all_names : List Str := ["found"]
theorem sc__law_all_names : FnScope N__law_all_names [] (defScope s__law_all_names) := ⟨rfl, rfl, rfl, by decide +kernel, rfl, by decide +kernel, by decide +kernel⟩
abbrev s__law_between : Stmt := topS 55
abbrev N__law_between : List Str := ["one", "other", "rows", "found", "kinds", "keys", "shape", "kind", "key", "name"]
theorem sc__law_between : FnScope N__law_between ["one", "other", "rows"] (defScope s__law_between) := ⟨rfl, rfl, rfl, by decide +kernel, rfl, by decide +kernel, by decide +kernel⟩
abbrev s__law_odd_shapes : Stmt := topS 57
abbrev N__law_odd_shapes : List Str := ["cup", "shape", "at", "kind", "key", "found", "odd"]
theorem sc__law_odd_shapes : FnScope N__law_odd_shapes ["cup", "shape"] (defScope s__law_odd_shapes) := ⟨rfl, rfl, rfl, by decide +kernel, rfl, by decide +kernel, by decide +kernel⟩
abbrev s_law : Stmt := topS 58
abbrev N_law : List Str := ["script", "cup", "keys", "rows", "turn", "kinds", "at", "some", "kind", "key", "odd", "one", "other", "far"]
theorem sc_law : FnScope N_law ["script"] (defScope s_law) := ⟨rfl, rfl, rfl, by decide +kernel, rfl, by decide +kernel, by decide +kernel⟩
def c_LETTERS : D := (.str [97, 98, 99, 100, 101, 102, 103, 104, 105, 106, 107, 108, 109, 110, 111, 112, 113, 114, 115, 116, 117, 118, 119, 120, 121, 122])
def c_DIGITS : D := (.str [48, 49, 50, 51, 52, 53, 54, 55, 56, 57])
def c_NAME_LENGTH : D := (.int 12)
def c_KINDS : D := (.tup [(.str [115, 101, 115, 115, 105, 111, 110]), (.str [116, 105, 109, 101]), (.str [114, 101, 97, 100]), (.str [111, 118, 101, 114]), (.str [97, 103, 97, 105, 110])])
def c_STRICT : D := (.str [115, 116, 114, 105, 99, 116, 32])
def c_CONDITIONS : D := (.tup [(.str [97, 116, 111, 109, 105, 99]), (.str [99, 97, 117, 115, 97, 108]), (.str [112, 97, 114, 97, 108, 108, 101, 108]), (.str [112, 114, 101, 102, 105, 120]), (.str [115, 110, 97, 112, 115, 104, 111, 116]), (.str [115, 101, 114, 105, 97, 108]), (.str [115, 116, 114, 105, 99, 116, 32, 97, 116, 111, 109, 105, 99]), (.str [115, 116, 114, 105, 99, 116, 32, 99, 97, 117, 115, 97, 108]), (.str [115, 116, 114, 105, 99, 116, 32, 112, 97, 114, 97, 108, 108, 101, 108]), (.str [115, 116, 114, 105, 99, 116, 32, 112, 114, 101, 102, 105, 120]), (.str [115, 116, 114, 105, 99, 116, 32, 115, 110, 97, 112, 115, 104, 111, 116]), (.str [115, 116, 114, 105, 99, 116, 32, 115, 101, 114, 105, 97, 108])])
def c_BASE : D := (.tup [(.str [115, 101, 115, 115, 105, 111, 110]), (.str [116, 105, 109, 101]), (.str [114, 101, 97, 100])])
def c_SAMPLES : D := (.tup [(.tup [(.str [116, 111, 108, 100, 32, 97, 104, 101, 97, 100]), (.tup [(.tup [(.str [114, 101, 97, 100]), (.str [114, 101, 97, 100])]), (.tup [(.str [114, 101, 97, 100]), (.str [116, 105, 109, 101])])])]), (.tup [(.str [99, 105, 114, 99, 108, 101, 32, 111, 102, 32, 119, 114, 105, 116, 101, 115]), (.tup [(.tup [(.str [111, 118, 101, 114]), (.str [111, 118, 101, 114])]), (.tup [(.str [111, 118, 101, 114]), (.str [116, 105, 109, 101])])])]), (.tup [(.str [117, 110, 114, 101, 97, 100, 32, 115, 101, 115, 115, 105, 111, 110]), (.tup [(.tup [(.str [115, 101, 115, 115, 105, 111, 110]), (.str [97, 103, 97, 105, 110])])])]), (.tup [(.str [116, 111, 114, 110, 32, 114, 101, 97, 100, 105, 110, 103]), (.tup [(.tup [(.str [114, 101, 97, 100]), (.str [97, 103, 97, 105, 110])])])]), (.tup [(.str [108, 97, 116, 101, 32, 114, 101, 97, 100, 105, 110, 103]), (.tup [(.tup [(.str [116, 105, 109, 101]), (.str [97, 103, 97, 105, 110])])])]), (.tup [(.str [109, 105, 115, 115, 101, 100, 32, 99, 97, 117, 115, 101]), (.tup [(.tup [(.str [114, 101, 97, 100]), (.str [114, 101, 97, 100]), (.str [97, 103, 97, 105, 110])]), (.tup [(.str [114, 101, 97, 100]), (.str [116, 105, 109, 101]), (.str [97, 103, 97, 105, 110])])])]), (.tup [(.str [108, 111, 115, 116, 32, 111, 118, 101, 114, 119, 114, 105, 116, 105, 110, 103]), (.tup [(.tup [(.str [111, 118, 101, 114]), (.str [97, 103, 97, 105, 110])])])]), (.tup [(.str [115, 108, 111, 119, 32, 111, 118, 101, 114, 119, 114, 105, 116, 105, 110, 103]), (.tup [(.tup [(.str [111, 118, 101, 114]), (.str [97, 103, 97, 105, 110])]), (.tup [(.str [111, 118, 101, 114]), (.str [97, 103, 97, 105, 110]), (.str [116, 105, 109, 101])])])]), (.tup [(.str [108, 97, 116, 101, 32, 99, 97, 117, 115, 101]), (.tup [(.tup [(.str [114, 101, 97, 100]), (.str [97, 103, 97, 105, 110]), (.str [111, 118, 101, 114])]), (.tup [(.str [116, 105, 109, 101]), (.str [97, 103, 97, 105, 110]), (.str [111, 118, 101, 114])])])]), (.tup [(.str [108, 111, 110, 103, 32, 102, 111, 114, 107]), (.tup [(.tup [(.str [114, 101, 97, 100]), (.str [97, 103, 97, 105, 110]), (.str [114, 101, 97, 100]), (.str [97, 103, 97, 105, 110])]), (.tup [(.str [114, 101, 97, 100]), (.str [97, 103, 97, 105, 110]), (.str [116, 105, 109, 101]), (.str [97, 103, 97, 105, 110])])])]), (.tup [(.str [102, 111, 114, 107, 101, 100, 32, 111, 118, 101, 114, 119, 114, 105, 116, 105, 110, 103]), (.tup [(.tup [(.str [111, 118, 101, 114]), (.str [97, 103, 97, 105, 110]), (.str [111, 118, 101, 114]), (.str [97, 103, 97, 105, 110])]), (.tup [(.str [111, 118, 101, 114]), (.str [97, 103, 97, 105, 110]), (.str [116, 105, 109, 101]), (.str [97, 103, 97, 105, 110])])])]), (.tup [(.str [115, 107, 101, 119, 101, 100, 32, 119, 114, 105, 116, 105, 110, 103]), (.tup [(.tup [(.str [97, 103, 97, 105, 110]), (.str [97, 103, 97, 105, 110])])])]), (.tup [(.str [115, 107, 101, 119, 101, 100, 32, 99, 105, 114, 99, 108, 101]), (.tup [(.tup [(.str [97, 103, 97, 105, 110]), (.str [97, 103, 97, 105, 110]), (.str [111, 118, 101, 114])]), (.tup [(.str [97, 103, 97, 105, 110]), (.str [97, 103, 97, 105, 110]), (.str [116, 105, 109, 101])])])])])
def kv_SAMPLES : List (D × D) := [((.str [116, 111, 108, 100, 32, 97, 104, 101, 97, 100]), (.tup [(.tup [(.str [114, 101, 97, 100]), (.str [114, 101, 97, 100])]), (.tup [(.str [114, 101, 97, 100]), (.str [116, 105, 109, 101])])])), ((.str [99, 105, 114, 99, 108, 101, 32, 111, 102, 32, 119, 114, 105, 116, 101, 115]), (.tup [(.tup [(.str [111, 118, 101, 114]), (.str [111, 118, 101, 114])]), (.tup [(.str [111, 118, 101, 114]), (.str [116, 105, 109, 101])])])), ((.str [117, 110, 114, 101, 97, 100, 32, 115, 101, 115, 115, 105, 111, 110]), (.tup [(.tup [(.str [115, 101, 115, 115, 105, 111, 110]), (.str [97, 103, 97, 105, 110])])])), ((.str [116, 111, 114, 110, 32, 114, 101, 97, 100, 105, 110, 103]), (.tup [(.tup [(.str [114, 101, 97, 100]), (.str [97, 103, 97, 105, 110])])])), ((.str [108, 97, 116, 101, 32, 114, 101, 97, 100, 105, 110, 103]), (.tup [(.tup [(.str [116, 105, 109, 101]), (.str [97, 103, 97, 105, 110])])])), ((.str [109, 105, 115, 115, 101, 100, 32, 99, 97, 117, 115, 101]), (.tup [(.tup [(.str [114, 101, 97, 100]), (.str [114, 101, 97, 100]), (.str [97, 103, 97, 105, 110])]), (.tup [(.str [114, 101, 97, 100]), (.str [116, 105, 109, 101]), (.str [97, 103, 97, 105, 110])])])), ((.str [108, 111, 115, 116, 32, 111, 118, 101, 114, 119, 114, 105, 116, 105, 110, 103]), (.tup [(.tup [(.str [111, 118, 101, 114]), (.str [97, 103, 97, 105, 110])])])), ((.str [115, 108, 111, 119, 32, 111, 118, 101, 114, 119, 114, 105, 116, 105, 110, 103]), (.tup [(.tup [(.str [111, 118, 101, 114]), (.str [97, 103, 97, 105, 110])]), (.tup [(.str [111, 118, 101, 114]), (.str [97, 103, 97, 105, 110]), (.str [116, 105, 109, 101])])])), ((.str [108, 97, 116, 101, 32, 99, 97, 117, 115, 101]), (.tup [(.tup [(.str [114, 101, 97, 100]), (.str [97, 103, 97, 105, 110]), (.str [111, 118, 101, 114])]), (.tup [(.str [116, 105, 109, 101]), (.str [97, 103, 97, 105, 110]), (.str [111, 118, 101, 114])])])), ((.str [108, 111, 110, 103, 32, 102, 111, 114, 107]), (.tup [(.tup [(.str [114, 101, 97, 100]), (.str [97, 103, 97, 105, 110]), (.str [114, 101, 97, 100]), (.str [97, 103, 97, 105, 110])]), (.tup [(.str [114, 101, 97, 100]), (.str [97, 103, 97, 105, 110]), (.str [116, 105, 109, 101]), (.str [97, 103, 97, 105, 110])])])), ((.str [102, 111, 114, 107, 101, 100, 32, 111, 118, 101, 114, 119, 114, 105, 116, 105, 110, 103]), (.tup [(.tup [(.str [111, 118, 101, 114]), (.str [97, 103, 97, 105, 110]), (.str [111, 118, 101, 114]), (.str [97, 103, 97, 105, 110])]), (.tup [(.str [111, 118, 101, 114]), (.str [97, 103, 97, 105, 110]), (.str [116, 105, 109, 101]), (.str [97, 103, 97, 105, 110])])])), ((.str [115, 107, 101, 119, 101, 100, 32, 119, 114, 105, 116, 105, 110, 103]), (.tup [(.tup [(.str [97, 103, 97, 105, 110]), (.str [97, 103, 97, 105, 110])])])), ((.str [115, 107, 101, 119, 101, 100, 32, 99, 105, 114, 99, 108, 101]), (.tup [(.tup [(.str [97, 103, 97, 105, 110]), (.str [97, 103, 97, 105, 110]), (.str [111, 118, 101, 114])]), (.tup [(.str [97, 103, 97, 105, 110]), (.str [97, 103, 97, 105, 110]), (.str [116, 105, 109, 101])])]))]
def c_SHORT : List (List Nat × D) := [([115, 101, 115, 115, 105, 111, 110], (.str [117, 110, 114, 101, 97, 100, 32, 115, 101, 115, 115, 105, 111, 110])), ([114, 101, 97, 100], (.str [116, 111, 114, 110, 32, 114, 101, 97, 100, 105, 110, 103])), ([116, 105, 109, 101], (.str [108, 97, 116, 101, 32, 114, 101, 97, 100, 105, 110, 103]))]
/-- what the top has left -/
def subs : Str → Str → Option Bool := subOf [("InvalidCondition", "InvalidCondition", true), ("InvalidCondition", "InvalidName", false), ("InvalidCondition", "InvalidPaper", false), ("InvalidCondition", "OrderError", true), ("InvalidName", "InvalidCondition", false), ("InvalidName", "InvalidName", true), ("InvalidName", "InvalidPaper", false), ("InvalidName", "OrderError", true), ("InvalidPaper", "InvalidCondition", false), ("InvalidPaper", "InvalidName", false), ("InvalidPaper", "InvalidPaper", true), ("InvalidPaper", "OrderError", true)]
structure TX (K : PySem.W.Frag) (w : World) (mg : Str → Option Value) (base : Heap) (tl : List (Addr × Str)) : Prop where
  d_is_tuple_of : DefAt K mg "is_tuple_of" s_is_tuple_of ["value", "low", "high"]
  d_is_name : DefAt K mg "is_name" s_is_name ["value"]
  d_fits_condition : DefAt K mg "fits_condition" s_fits_condition ["value"]
  d_need_condition : DefAt K mg "need_condition" s_need_condition ["value"]
  d_conditions : DefAt K mg "conditions" s_conditions []
  d_word_of : DefAt K mg "word_of" s_word_of ["condition"]
  d_sort_of : DefAt K mg "sort_of" s_sort_of ["kind"]
  d_row_lets : DefAt K mg "row_lets" s_row_lets ["word", "sorts"]
  d_forbids_kinds : DefAt K mg "forbids_kinds" s_forbids_kinds ["condition", "kinds"]
  d_are_kinds : DefAt K mg "are_kinds" s_are_kinds ["value"]
  d_forbidding : DefAt K mg "forbidding" s_forbidding ["kinds"]
  d_fits_pair : DefAt K mg "fits_pair" s_fits_pair ["value"]
  d_fits_shape : DefAt K mg "fits_shape" s_fits_shape ["value"]
  d_name_with_one : DefAt K mg "name_with_one" s_name_with_one ["shape", "kinds"]
  d_name_in : DefAt K mg "name_in" s_name_in ["shape"]
  d_need_name : DefAt K mg "need_name" s_need_name ["name"]
  d_ring_names : DefAt K mg "ring_names" s_ring_names []
  d_is_shape : DefAt K mg "is_shape" s_is_shape ["value"]
  d_name_of : DefAt K mg "name_of" s_name_of ["shape"]
  d_against : DefAt K mg "against" s_against ["name"]
  d_gap_names : DefAt K mg "gap_names" s_gap_names ["one", "other"]
  d__law_cup : DefAt K mg "_law_cup" s__law_cup ["script"]
  d__law_roll : DefAt K mg "_law_roll" s__law_roll ["cup", "many"]
  d__law_some : DefAt K mg "_law_some" s__law_some ["cup", "things"]
  d__law_sort : DefAt K mg "_law_sort" s__law_sort ["value"]
  d__law_like : DefAt K mg "_law_like" s__law_like ["one", "other"]
  d__law_name : DefAt K mg "_law_name" s__law_name ["cup", "taken"]
  d__law_names : DefAt K mg "_law_names" s__law_names ["cup", "many"]
  d__law_conditions : DefAt K mg "_law_conditions" s__law_conditions []
  d__law_forbids : DefAt K mg "_law_forbids" s__law_forbids ["condition", "kinds"]
  d__law_shape_name : DefAt K mg "_law_shape_name" s__law_shape_name ["shape"]
  d__law_error : DefAt K mg "_law_error" s__law_error ["call"]
  d__law_rows : DefAt K mg "_law_rows" s__law_rows ["most"]
  d__law_keyed : DefAt K mg "_law_keyed" s__law_keyed ["cup", "kinds", "keys"]
  d__law_told : DefAt K mg "_law_told" s__law_told ["shape"]
  d__law_all_names : DefAt K mg "_law_all_names" s__law_all_names []
  d__law_between : DefAt K mg "_law_between" s__law_between ["one", "other", "rows"]
  d__law_odd_shapes : DefAt K mg "_law_odd_shapes" s__law_odd_shapes ["cup", "shape"]
  d_law : DefAt K mg "law" s_law ["script"]
  c_InvalidCondition : ClsAt K mg "InvalidCondition"
  c_InvalidName : ClsAt K mg "InvalidName"
  c_InvalidPaper : ClsAt K mg "InvalidPaper"
  c_OrderError : ClsAt K mg "OrderError"
  sub : SubAt K mg subs
  n_abs : mg "abs" = none
  n_all : mg "all" = none
  n_any : mg "any" = none
  n_bool : mg "bool" = none
  n_dict : mg "dict" = none
  n_int : mg "int" = none
  n_isinstance : mg "isinstance" = none
  n_len : mg "len" = none
  n_list : mg "list" = none
  n_range : mg "range" = none
  n_sorted : mg "sorted" = none
  n_str : mg "str" = none
  n_tuple : mg "tuple" = none
  n_zip : mg "zip" = none
  k_LETTERS : ConAt K mg "LETTERS" c_LETTERS
  k_DIGITS : ConAt K mg "DIGITS" c_DIGITS
  k_NAME_LENGTH : ConAt K mg "NAME_LENGTH" c_NAME_LENGTH
  k_KINDS : ConAt K mg "KINDS" c_KINDS
  k_STRICT : ConAt K mg "STRICT" c_STRICT
  k_CONDITIONS : ConAt K mg "CONDITIONS" c_CONDITIONS
  k_BASE : ConAt K mg "BASE" c_BASE
  k_SAMPLES : ConAt K mg "SAMPLES" c_SAMPLES
  k_SHORT : DctAt K w mg "SHORT" c_SHORT
  b_SAMPLES : BareAt K mg "SAMPLES"
section
variable {P : Program} {w : World} {K : PySem.W.Frag} {mg : Str → Option Value} {base : Heap} {tl : List (Addr × Str)}
/-! ### the cup and its draws, by hand -/
def SpCupF (P : Program) (w : World) (K : PySem.W.Frag) (mg : Str → Option Value) (base : Heap) : Prop := ∃ f fd, mg "_law_cup" = some (.ref f) ∧ PySem.W.keepIn K (.ref f) = true ∧ Binds K fd ["script"] [] ∧ FnOk P w K mg base (L2.CX P w) 1 f fd ["script"] (spCup K)
theorem ok__law_cup (X : TX K w mg base tl) : SpCupF P w K mg base := by
  obtain ⟨f, fd, F, g, b⟩ := X.d__law_cup
  refine ⟨f, fd, g, F.kp, b, F.okX sc__law_cup (fun vs H Q E h => ?_) (fun cdv A outer s H vs Q E hr h => ?_)⟩
  · obtain ⟨a, ns, rfl, _⟩ := h
    rfl
  · obtain ⟨a, ns, rfl, hS, hlen, q⟩ := h
    have nd := sc__law_cup.nd
    refine ⟨_, pss_cons (ps_set (i := 1) nd rfl (.inl rfl) (pe_callB call_abs (by rfl) X.n_abs (by decide +kernel) (pa_cons
        (pe_ix ix_list (pe_op op_cat (pe_callTy call_list_of (by rfl) X.n_list (by decide +kernel) (pa_cons (pv 0) pa_nil)) (pe_lst (pa_cons pe_int pa_nil))) pe_int (fun _ _ => rfl)) pa_nil)))
      (pss_one (ps_ret (pe_lst (pa_cons (pe_ifExp (pt_cmpR op_ge (pv 1) (pe_op op_pow pe_int pe_int) (nomark _)) (pe_op op_fdiv (pv 1) pe_int) pe_int)
        (pa_cons (pe_op op_add (pe_op op_mod (pe_callTy call_int1 (by rfl) X.n_int (by decide +kernel) (pa_cons (pe_op op_add (pe_op op_mul (pv 1) pe_int) pe_int) pa_nil)) pe_int) pe_int) pa_nil))))), ?_⟩
    have hz : ns.length ≤ sizeLine := by rw [size16]; omega
    refine ⟨.ref a, rfl, a, ns.map V.int, rfl, .inl hS, fun l nl => ⟨by rw [size16]; simp, fun m nm => ?_⟩⟩
    have nlm : l ≠ m := fun e => by rw [← e, upd_same] at nm; cases nm
    refine ⟨l, m, ns.map V.int, [.int 0], rfl, rfl, by rw [upd_ne nlm, upd_same], upd_same, by rw [size16]; simp; omega, fun p np => ?_⟩
    obtain ⟨x, hx⟩ : ∃ x : Int, (ns.map V.int ++ [V.int 0])[0]? = some (.int x) := by
      cases ns with
      | nil => exact ⟨0, rfl⟩
      | cons y r => exact ⟨y, rfl⟩
    refine ⟨p, _, 0, .int x, rfl, rfl, SqL.of upd_same, atI_nat (j := 0) hx, x, rfl, ?_⟩
    generalize hc : (if x < 0 then -x else x) = c
    have c0 : 0 ≤ c := by subst hc; split <;> omega
    refine ⟨_, rfl, 10, 18, rfl, rfl, ⟨by decide, by decide, by decide⟩, c, _, rfl, rfl, _, rfl, ?_⟩
    have sm3 : Same H (upd (upd (upd H l (.lst (ns.map V.int))) m (.lst [.int 0])) p (.lst (ns.map V.int ++ [.int 0]))) := fun b o e => by
      rw [upd_ne (ne_of_none (by rw [upd_ne (ne_of_none (by rw [upd_ne (ne_of_none e nl)]; exact e) nm), upd_ne (ne_of_none e nl)]; exact e) np), upd_ne (ne_of_none (by rw [upd_ne (ne_of_none e nl)]; exact e) nm), upd_ne (ne_of_none e nl)]
      exact e
    have fin : ∀ e : Int, 0 ≤ e → ∀ z, upd (upd (upd H l (.lst (ns.map V.int))) m (.lst [.int 0])) p (.lst (ns.map V.int ++ [.int 0])) z = none →
        Q (.ref z) (upd (upd (upd (upd H l (.lst (ns.map V.int))) m (.lst [.int 0])) p (.lst (ns.map V.int ++ [.int 0]))) z (.lst [.int e, .int ((c * 283 + 3907) % 2077503167 + 167)])) := fun e e0 z nz => by
      refine q _ z (fun b o hb => ?_) (sm3.free nz) ⟨e, _, upd_same, e0, by omega, by omega⟩
      rw [upd_ne (ne_of_none (sm3 _ _ hb) nz)]
      exact sm3 _ _ hb
    have pos1 : (0 : Int) < 2077503167 := by decide
    refine ite2 (fun _ => ?_) (fun _ => ?_)
    · refine ⟨_, rfl, _, _, rfl, rfl, ⟨by decide, by decide⟩, _, rfl, _, _, rfl, rfl, .inr ⟨by decide, by decide⟩, _, _, rfl, rfl, .inl ⟨_, rfl, _, _, rfl, rfl, pos1, _, _, rfl, rfl, by rw [size16]; simp, fin _ (by omega)⟩⟩
    · refine ⟨_, rfl, _, _, rfl, rfl, .inr ⟨by decide, by decide⟩, _, _, rfl, rfl, .inl ⟨_, rfl, _, _, rfl, rfl, pos1, _, _, rfl, rfl, by rw [size16]; simp, fin _ (by omega)⟩⟩
theorem ok__law_roll (X : TX K w mg base tl) : OkF P w K mg base tl 1 2 "_law_roll" ["cup", "many"] rollM := by
  obtain ⟨f, fd, F, g, b⟩ := X.d__law_roll
  refine ⟨f, fd, g, F.kp, b, F.okX sc__law_roll (fun vs H Q E h => ?_) (fun cdv A outer s H vs Q E hr h => ?_)⟩
  · obtain ⟨_, _, _, hl, _⟩ := h
    exact hl
  · obtain ⟨N0, C, ds, hl, hC, hcup, hn0, tabs, r, hw⟩ := h
    have nd := sc__law_roll.nd
    unfold rollM at hw
    split at hw
    rotate_left
    · exact hw.elim
    rename_i n
    split at hw
    rotate_left
    · exact hw.elim
    rename_i hn
    obtain ⟨v, w', rfl, rc, rn⟩ := ra2 r
    simp only [Rep] at rc rn
    obtain ⟨a, rfl, ca⟩ := rc
    subst rn
    obtain ⟨c, d, hH, c0, d0, d1⟩ := hcup a ca
    have hN : ((n.toNat : Nat) : Int) = n := by omega
    have fin : ∀ (k : Int) (H' : Hp), 0 ≤ k → k < n → Step ⟨K, mg, tb0 tl⟩ C H H' → Q (.int k) H' := fun k H' k0 k1 st => by
      have q := hw.2 k.toNat (by omega) (.int k) H' st
      refine q ?_
      simp only [Rep]
      congr 1
      omega
    have up : ∀ c' d' : Int, 0 ≤ c' → 0 ≤ d' → d' < 2147483543 → Step ⟨K, mg, tb0 tl⟩ C H (upd H a (.lst [.int c', .int d'])) := fun c' d' h0 h1 h2 => cup_step hcup tabs ca h0 h1 h2
    have md : 0 ≤ c % n ∧ c % n < n := ⟨Int.emod_nonneg _ (by omega), Int.emod_lt_of_pos _ (by omega)⟩
    have dv : 0 ≤ c / n := Int.ediv_nonneg c0 (by omega)
    refine ⟨_, pss_cons (ps_if (pt_cmpR op_gt (pe_ix ix_list (pv 0) pe_int (fun _ _ => rfl)) pe_int (nomark _))
        (pss_cons (ps_set (i := 2) nd rfl (.inl rfl) (pe_op op_mod (pe_callTy call_int1 (by rfl) X.n_int (by decide +kernel) (pa_cons (pe_ix ix_list (pv 0) pe_int (fun _ _ => rfl)) pa_nil)) (pv 1)))
        (pss_cons (ps_asg (pe_op op_fdiv (pe_ix ix_list (pv 0) pe_int (fun _ _ => rfl)) (pv 1)) (pg_sub (pv 0) pe_int set_list))
        (pss_one (ps_ret (pv 2))))) pss_nil)
      (pss_cons (ps_asg (pe_op op_mod (pe_callTy call_int1 (by rfl) X.n_int (by decide +kernel) (pa_cons (pe_op op_add (pe_op op_mul (pe_ix ix_list (pv 0) pe_int (fun _ _ => rfl)) pe_int) pe_int) pa_nil)) pe_int) (pg_sub (pv 0) pe_int set_list))
      (pss_cons (ps_set (i := 3) nd rfl (.inl rfl) (pe_op op_mod (pe_callTy call_int1 (by rfl) X.n_int (by decide +kernel) (pa_cons (pe_op op_mul (pe_ix ix_list (pv 0) pe_int (fun _ _ => rfl)) (pe_op op_add (pe_ix ix_list (pv 0) pe_int (fun _ _ => rfl)) pe_int)) pa_nil)) pe_int))
      (pss_one (ps_ret (pe_op op_mod (pe_callTy call_int1 (by rfl) X.n_int (by decide +kernel) (pa_cons (pe_op op_fdiv (pv 3) pe_int) pa_nil)) (pv 1)))))), ?_⟩
    refine ⟨.ref a, rfl, a, _, 0, .int c, rfl, rfl, SqL.of hH, atI_nat (j := 0) rfl, c, 0, rfl, rfl, _, rfl, ite2 (fun hc => ?_) (fun hc => ?_)⟩
    · refine ⟨.ref a, rfl, a, _, 0, .int c, rfl, rfl, SqL.of hH, atI_nat (j := 0) rfl, .inl ⟨c, rfl, .int n, rfl, c, n, rfl, rfl, hn.1, ?_⟩⟩
      refine ⟨.ref a, rfl, a, _, 0, .int c, rfl, rfl, SqL.of hH, atI_nat (j := 0) rfl, .int n, rfl, c, n, rfl, rfl, hn, .ref a, rfl, a, _, 0, 0, rfl, rfl, hH, rfl, ?_⟩
      refine ⟨.int (c % n), rfl, fin _ _ md.1 md.2 (up _ _ dv d0 d1)⟩
    · have e0 : 0 ≤ (d * 31051 + 7993) % 2147483543 := by omega
      have e1 : (d * 31051 + 7993) % 2147483543 < 2147483543 := by omega
      have pos1 : (0 : Int) < 2147483543 := by decide
      have pos2 : (0 : Int) < 2147483587 := by decide
      have st := up c ((d * 31051 + 7993) % 2147483543) c0 e0 e1
      refine ⟨.ref a, rfl, a, _, 1, .int d, rfl, rfl, SqL.of hH, atI_nat (j := 1) rfl, d, _, rfl, rfl, .inl ⟨by omega, by omega⟩, _, _, rfl, rfl, .inl ⟨_, rfl, _, _, rfl, rfl, pos1, .ref a, rfl, a, _, 1, 1, rfl, rfl, hH, rfl, ?_⟩⟩
      refine ⟨.ref a, rfl, a, [.int c, .int ((d * 31051 + 7993) % 2147483543)], 1, .int ((d * 31051 + 7993) % 2147483543), rfl, rfl, SqL.of upd_same, atI_nat (j := 1) rfl, .ref a, rfl, a, [.int c, .int ((d * 31051 + 7993) % 2147483543)], 1, .int ((d * 31051 + 7993) % 2147483543), rfl, rfl, SqL.of upd_same, atI_nat (j := 1) rfl,
        (d * 31051 + 7993) % 2147483543, 229, rfl, rfl, (d * 31051 + 7993) % 2147483543, _, rfl, rfl, .inl ⟨by omega, by omega⟩, ?_⟩
      refine .inl ⟨_, rfl, _, _, rfl, rfl, pos2, _, rfl, _, _, rfl, rfl, ⟨by decide, by decide⟩, .inl ⟨_, rfl, .int n, rfl, _, n, rfl, rfl, hn.1, ?_⟩⟩
      exact fin _ _ (Int.emod_nonneg _ (by omega)) (Int.emod_lt_of_pos _ (by omega)) st

def b_is_tuple_of : MM.Env → T Fl :=
  (sRet (eAnd (e1 (isiD "tuple") (eVar 0)) (e3 leI leI (eVar 1) (eCall lenD (aCons (eVar 0) aNil)) (eVar 2))))
def m_is_tuple_of : List D → T D := runB 3 b_is_tuple_of
theorem ok_is_tuple_of (X : TX K w mg base tl) : OkF P w K mg base tl 1 3 "is_tuple_of" ["value", "low", "high"] m_is_tuple_of := OkF.mk X.d_is_tuple_of sc_is_tuple_of rfl fun f cdv A outer s H E hr =>
    (qb_one (qs_ret (qe_and (QE.p (qe_isi (t := "tuple") rfl (by rfl) X.n_isinstance (by rfl) X.n_tuple (by decide +kernel) (QE.p (qe_var 0)))) (qe_one (qe_chain op_le op_le (QE.p (qe_var 1)) (QE.p (qe_len (by rfl) X.n_len (QE.p (qe_var 0)))) (QE.p (qe_var 2)))))))
def b_is_name : MM.Env → T Fl :=
  (sSeq (sIf (MM.tOr (MM.tNot (MM.tB (e1 (isiD "str") (eVar 0)))) (MM.tOr (MM.tNot (MM.tB (e3 leI leI (eC (.int 1)) (eCall lenD (aCons (eVar 0) aNil)) (eC c_NAME_LENGTH)))) (MM.tB (e2 notInD (e2 ixD (eVar 0) (eC (.int 0))) (eC c_LETTERS))))) (sRet (eC (.bl false))) sNx)
    (sRet (eCall allD (aCons (eComp (iSq (eVar 0)) [1] (sName 1) tYesB (e2 inD (eVar 1) (e2 addD (eC c_LETTERS) (eC c_DIGITS)))) aNil))))
def m_is_name : List D → T D := runB 2 b_is_name
theorem ok_is_name (X : TX K w mg base tl) : OkF P w K mg base tl 1 1 "is_name" ["value"] m_is_name := OkF.mk X.d_is_name sc_is_name rfl fun f cdv A outer s H E hr =>
    (qb_cons (qs_if (QW.t (qw_or (qt_not (qt_val (QE.p (qe_isi (t := "str") rfl (by rfl) X.n_isinstance (by rfl) X.n_str (by decide +kernel) (QE.p (qe_var 0)))))) (qw_or (qt_not (qt_chain op_le op_le (QE.p qe_int) (QE.p (qe_len (by rfl) X.n_len (QE.p (qe_var 0)))) (QE.p (qe_con X.k_NAME_LENGTH)))) (qw_or1 (qt_cm (cm_notIn (u65 hr)) (QE.p (qe_ix (u65 hr) (QE.p (qe_var 0)) (QE.p qe_int))) (QE.p (qe_con X.k_LETTERS))))))) (qb_one (qs_ret qe_bl)) qb_nil)
    (qb_one (qs_ret (qe_all (by rfl) (by rfl) X.n_all (QE.p (QO.e (qo_lc [("sign", 1)] (by rfl) sc_is_name.nd (qi_seq (qe_var 0)) (show blkC N_is_name (defScope s_is_name) _ _ = true by decide +kernel) (fun _ _ _ _ _ => (qg_name sc_is_name.nd)) (fun _ _ _ _ _ => qts_nil) (fun _ _ _ _ _ => (qe_cm (cm_in (u65 hr)) (QE.p (qe_var 1)) (QE.p (qe_add (QE.p (qe_con X.k_LETTERS)) (QE.p (qe_con X.k_DIGITS)))))))))))))
def b_fits_condition : MM.Env → T Fl :=
  (sRet (eAnd (e1 (isiD "str") (eVar 0)) (e2 inD (eVar 0) (eC c_CONDITIONS))))
def m_fits_condition : List D → T D := runB 1 b_fits_condition
theorem ok_fits_condition (X : TX K w mg base tl) : OkF P w K mg base tl 1 1 "fits_condition" ["value"] m_fits_condition := OkF.mk X.d_fits_condition sc_fits_condition rfl fun f cdv A outer s H E hr =>
    (qb_one (qs_ret (qe_and (QE.p (qe_isi (t := "str") rfl (by rfl) X.n_isinstance (by rfl) X.n_str (by decide +kernel) (QE.p (qe_var 0)))) (qe_one (qe_cm (cm_in (u65 hr)) (QE.p (qe_var 0)) (QE.p (qe_con X.k_CONDITIONS)))))))
def b_need_condition : MM.Env → T Fl :=
  (sIf (MM.tNot (MM.tB (eFn 1 m_fits_condition (aCons (eVar 0) aNil)))) (sRaise "InvalidCondition") sNx)
def m_need_condition : List D → T D := runB 1 b_need_condition
theorem ok_need_condition (X : TX K w mg base tl) : OkF P w K mg base tl 2 1 "need_condition" ["value"] m_need_condition := OkF.mk X.d_need_condition sc_need_condition rfl fun f cdv A outer s H E hr =>
    (qb_one (qs_if (qt_not (qt_val (QE.p (qe_callF ((ok_fits_condition X).up (by omega)) hr (takes_of rfl rfl rfl rfl) (qa_cons (qe_var 0) qa_nil))))) (qb_one (qs_raise X.c_InvalidCondition (by rfl) (takes_of rfl rfl rfl rfl))) qb_nil))
def b_conditions : MM.Env → T Fl :=
  (sRet (eCall tupleD (aCons (eCall listD (aCons (eC c_CONDITIONS) aNil)) aNil)))
def m_conditions : List D → T D := runB 0 b_conditions
theorem ok_conditions (X : TX K w mg base tl) : OkF P w K mg base tl 1 0 "conditions" [] m_conditions := OkF.mk X.d_conditions sc_conditions rfl fun f cdv A outer s H E hr =>
    (qb_one (qs_ret (qe_tuple (by rfl) X.n_tuple (QE.p (QO.e (qo_list (by rfl) X.n_list (QE.p (qe_con X.k_CONDITIONS))))))))
def b_word_of : MM.Env → T Fl :=
  (sRet (e2 ixD (eMeth "str" splitD (eVar 0) (aCons (eC (.str [32])) aNil)) (e1 negD (eC (.int 1)))))
def m_word_of : List D → T D := runB 1 b_word_of
theorem ok_word_of (X : TX K w mg base tl) : OkF P w K mg base tl 1 1 "word_of" ["condition"] m_word_of := OkF.mk X.d_word_of sc_word_of rfl fun f cdv A outer s H E hr =>
    (qb_one (qs_ret (qe_ix (u65 hr) (QE.p (qe_split (QE.p (qe_var 0)) (QE.p (qe_str [32])))) (QE.p (qe_neg (QE.p qe_int))))))
def b_sort_of : MM.Env → T Fl :=
  (sRet (eIf (MM.tB (e2 inD (eVar 0) (eC c_BASE))) (eC (.int 0)) (eIf (MM.tB (e2 eqD (eVar 0) (eC (.str [111, 118, 101, 114])))) (eC (.int 1)) (eC (.int 2)))))
def m_sort_of : List D → T D := runB 1 b_sort_of
theorem ok_sort_of (X : TX K w mg base tl) : OkF P w K mg base tl 1 1 "sort_of" ["kind"] m_sort_of := OkF.mk X.d_sort_of sc_sort_of rfl fun f cdv A outer s H E hr =>
    (qb_one (qs_ret (qe_if (qt_cm (cm_in (u65 hr)) (QE.p (qe_var 0)) (QE.p (qe_con X.k_BASE))) qe_int (qe_if (qt_cm (cm_eq hr.units) (QE.p (qe_var 0)) (QE.p (qe_str [111, 118, 101, 114]))) qe_int qe_int))))
def b_row_lets : MM.Env → T Fl :=
  (sSeq (sPar 2 3 (aCons (eMeth "list" countD (eVar 1) (aCons (eC (.int 2)) aNil)) (aCons (eCall lzD (aCons (eVar 1) (aCons (eCut (eVar 1) (oSo (eC (.int 1))) oNo) aNil))) aNil)))
    (sSeq (sIf (MM.tB (e2 eqD (eVar 0) (eC (.str [97, 116, 111, 109, 105, 99])))) (sRet (eOr (e2 eqD (eVar 2) (eC (.int 0))) (eAnd (e2 eqD (eVar 2) (eC (.int 1))) (eAnd (e2 ltD (eCall lenD (aCons (eVar 1) aNil)) (eC (.int 3))) (e2 notInD (eC (.int 1)) (eVar 1)))))) sNx)
    (sSeq (sIf (MM.tB (e2 eqD (eVar 0) (eC (.str [99, 97, 117, 115, 97, 108])))) (sRet (eOr (e2 eqD (eVar 2) (eC (.int 0))) (eAnd (e2 eqD (eVar 2) (eC (.int 1))) (e2 notInD (eC (.int 1)) (eVar 1))))) sNx)
    (sSeq (sIf (MM.tB (e2 eqD (eVar 0) (eC (.str [112, 97, 114, 97, 108, 108, 101, 108])))) (sRet (e2 ltD (eVar 2) (eC (.int 2)))) sNx)
    (sSeq (sIf (MM.tB (e2 eqD (eVar 0) (eC (.str [112, 114, 101, 102, 105, 120])))) (sRet (eCall allD (aCons (eComp (iSq (eVar 3)) [4, 5] (sTup [4, 5]) (MM.tB (e2 eqD (eVar 5) (eC (.int 2)))) (e2 eqD (eVar 4) (eC (.int 0)))) aNil))) sNx)
    (sRet (eOr (e2 eqD (eVar 0) (eC (.str [115, 101, 114, 105, 97, 108]))) (e2 notInD (eTup (aCons (eC (.int 2)) (aCons (eC (.int 2)) aNil))) (eVar 3)))))))))
def m_row_lets : List D → T D := runB 6 b_row_lets
theorem ok_row_lets (X : TX K w mg base tl) : OkF P w K mg base tl 1 2 "row_lets" ["word", "sorts"] m_row_lets := OkF.mk X.d_row_lets sc_row_lets rfl fun f cdv A outer s H E hr =>
    (qb_cons (qs_par (i := 2) (j := 3) (by rfl) sc_row_lets.nd (qa_cons (qe_count (QE.p (qe_var 1)) (QE.p qe_int)) (qa_cons (QO.e (qo_listzip (by rfl) (by rfl) X.n_list (by rfl) X.n_zip (QE.p (qe_var 1)) (QE.p (qe_cut (QE.p (qe_var 1)) (qo_so (QE.p qe_int)) qo_no)))) qa_nil)))
    (qb_cons (qs_if (qt_cm (cm_eq hr.units) (QE.p (qe_var 0)) (QE.p (qe_str [97, 116, 111, 109, 105, 99]))) (qb_one (qs_ret (qe_or (QE.p (qe_cm (cm_eq hr.units) (QE.p (qe_var 2)) (QE.p qe_int))) (qe_one (qe_and (QE.p (qe_cm (cm_eq hr.units) (QE.p (qe_var 2)) (QE.p qe_int))) (qe_and (QE.p (qe_cm cm_ltS (QE.p (qe_len (by rfl) X.n_len (QE.p (qe_var 1)))) (QE.p qe_int))) (qe_one (qe_cm (cm_notIn (u65 hr)) (QE.p qe_int) (QE.p (qe_var 1)))))))))) qb_nil)
    (qb_cons (qs_if (qt_cm (cm_eq hr.units) (QE.p (qe_var 0)) (QE.p (qe_str [99, 97, 117, 115, 97, 108]))) (qb_one (qs_ret (qe_or (QE.p (qe_cm (cm_eq hr.units) (QE.p (qe_var 2)) (QE.p qe_int))) (qe_one (qe_and (QE.p (qe_cm (cm_eq hr.units) (QE.p (qe_var 2)) (QE.p qe_int))) (qe_one (qe_cm (cm_notIn (u65 hr)) (QE.p qe_int) (QE.p (qe_var 1))))))))) qb_nil)
    (qb_cons (qs_if (qt_cm (cm_eq hr.units) (QE.p (qe_var 0)) (QE.p (qe_str [112, 97, 114, 97, 108, 108, 101, 108]))) (qb_one (qs_ret (qe_cm cm_ltS (QE.p (qe_var 2)) (QE.p qe_int)))) qb_nil)
    (qb_cons (qs_if (qt_cm (cm_eq hr.units) (QE.p (qe_var 0)) (QE.p (qe_str [112, 114, 101, 102, 105, 120]))) (qb_one (qs_ret (qe_all (by rfl) (by rfl) X.n_all (QE.p (QO.e (qo_lc [("one", 4), ("other", 5)] (by rfl) sc_row_lets.nd (qi_seq (qe_var 3)) (show blkC N_row_lets (defScope s_row_lets) _ _ = true by decide +kernel) (fun _ _ _ _ _ => (qg_tup [4, 5] (by rfl) (pgs_cons (pg_name (i := 4) sc_row_lets.nd rfl (by first | exact Or.inl rfl | exact Or.inr rfl)) (pgs_cons (pg_name (i := 5) sc_row_lets.nd rfl (by first | exact Or.inl rfl | exact Or.inr rfl)) pgs_nil)))) (fun _ _ _ _ _ => (qts_one (qt_cm (cm_eq hr.units) (QE.p (qe_var 5)) (QE.p qe_int)))) (fun _ _ _ _ _ => (qe_cm (cm_eq hr.units) (QE.p (qe_var 4)) (QE.p qe_int))))))))) qb_nil)
    (qb_one (qs_ret (qe_or (QE.p (qe_cm (cm_eq hr.units) (QE.p (qe_var 0)) (QE.p (qe_str [115, 101, 114, 105, 97, 108])))) (qe_one (qe_cm (cm_notIn (u65 hr)) (QE.p (qe_tup (qa_cons qe_int (qa_cons qe_int qa_nil)))) (QE.p (qe_var 3))))))))))))
def b_forbids_kinds : MM.Env → T Fl :=
  (sSeq (sPar 2 3 (aCons (eComp (iSq (eVar 1)) [4] (sName 4) tYesB (eFn 1 m_sort_of (aCons (eVar 4) aNil))) (aCons (eFn 1 m_word_of (aCons (eVar 0) aNil)) aNil)))
    (sSeq (sIf (MM.tAnd (MM.tB (e2 inD (eC (.str [116, 105, 109, 101])) (eVar 1))) (MM.tB (e2 eqD (eVar 3) (eVar 0)))) (sRet (eC (.bl false))) sNx)
    (sRet (eAnd (eFn 2 m_row_lets (aCons (eVar 3) (aCons (eVar 2) aNil))) (eFn 2 m_row_lets (aCons (eVar 3) (aCons (e2 addD (eCut (eVar 2) (oSo (e1 negD (eC (.int 1)))) oNo) (eCut (eVar 2) oNo (oSo (eC (.int 1))))) aNil)))))))
def m_forbids_kinds : List D → T D := runB 5 b_forbids_kinds
theorem ok_forbids_kinds (X : TX K w mg base tl) : OkF P w K mg base tl 2 2 "forbids_kinds" ["condition", "kinds"] m_forbids_kinds := OkF.mk X.d_forbids_kinds sc_forbids_kinds rfl fun f cdv A outer s H E hr =>
    (qb_cons (qs_par (i := 2) (j := 3) (by rfl) sc_forbids_kinds.nd (qa_cons (QO.e (qo_lc [("kind", 4)] (by rfl) sc_forbids_kinds.nd (qi_seq (qe_var 1)) (show blkC N_forbids_kinds (defScope s_forbids_kinds) _ _ = true by decide +kernel) (fun _ _ _ _ _ => (qg_name sc_forbids_kinds.nd)) (fun _ _ _ _ _ => qts_nil) (fun _ _ _ _ _ => (qe_callF ((ok_sort_of X).up (by omega)) hr takes0 (qa_cons (qe_var 4) qa_nil))))) (qa_cons (qe_callF ((ok_word_of X).up (by omega)) hr (takes_of rfl rfl rfl rfl) (qa_cons (qe_var 0) qa_nil)) qa_nil)))
    (qb_cons (qs_if (QW.t (qw_and (qt_cm (cm_in (u65 hr)) (QE.p (qe_str [116, 105, 109, 101])) (QE.p (qe_var 1))) (qw_and1 (qt_cm (cm_eq hr.units) (QE.p (qe_var 3)) (QE.p (qe_var 0)))))) (qb_one (qs_ret qe_bl)) qb_nil)
    (qb_one (qs_ret (qe_and (QE.p (qe_callF ((ok_row_lets X).up (by omega)) hr (takes_of rfl rfl rfl rfl) (qa_cons (qe_var 3) (qa_cons (qe_var 2) qa_nil)))) (qe_one (qe_callF ((ok_row_lets X).up (by omega)) hr (takes_of rfl rfl rfl rfl) (qa_cons (qe_var 3) (qa_cons (qe_add (QE.p (qe_cut (QE.p (qe_var 2)) (qo_so (QE.p (qe_neg (QE.p qe_int)))) qo_no)) (QE.p (qe_cut (QE.p (qe_var 2)) qo_no (qo_so (QE.p qe_int))))) qa_nil)))))))))
def b_are_kinds : MM.Env → T Fl :=
  (sSeq (sIf (MM.tOr (MM.tNot (MM.tB (e1 (isiD "tuple") (eVar 0)))) (MM.tB (e2 ltD (eCall lenD (aCons (eVar 0) aNil)) (eC (.int 2))))) (sRet (eC (.bl false))) sNx)
    (sRet (eCall allD (aCons (eComp (iSq (eVar 0)) [1] (sName 1) tYesB (eAnd (e1 (isiD "str") (eVar 1)) (e2 inD (eVar 1) (eC c_KINDS)))) aNil))))
def m_are_kinds : List D → T D := runB 2 b_are_kinds
theorem ok_are_kinds (X : TX K w mg base tl) : OkF P w K mg base tl 1 1 "are_kinds" ["value"] m_are_kinds := OkF.mk X.d_are_kinds sc_are_kinds rfl fun f cdv A outer s H E hr =>
    (qb_cons (qs_if (QW.t (qw_or (qt_not (qt_val (QE.p (qe_isi (t := "tuple") rfl (by rfl) X.n_isinstance (by rfl) X.n_tuple (by decide +kernel) (QE.p (qe_var 0)))))) (qw_or1 (qt_cm cm_ltS (QE.p (qe_len (by rfl) X.n_len (QE.p (qe_var 0)))) (QE.p qe_int))))) (qb_one (qs_ret qe_bl)) qb_nil)
    (qb_one (qs_ret (qe_all (by rfl) (by rfl) X.n_all (QE.p (QO.e (qo_lc [("kind", 1)] (by rfl) sc_are_kinds.nd (qi_seq (qe_var 0)) (show blkC N_are_kinds (defScope s_are_kinds) _ _ = true by decide +kernel) (fun _ _ _ _ _ => (qg_name sc_are_kinds.nd)) (fun _ _ _ _ _ => qts_nil) (fun _ _ _ _ _ => (qe_and (QE.p (qe_isi (t := "str") rfl (by rfl) X.n_isinstance (by rfl) X.n_str (by decide +kernel) (QE.p (qe_var 1)))) (qe_one (qe_cm (cm_in (u65 hr)) (QE.p (qe_var 1)) (QE.p (qe_con X.k_KINDS)))))))))))))
def b_forbidding : MM.Env → T Fl :=
  (sSeq (sIf (MM.tNot (MM.tB (eFn 1 m_are_kinds (aCons (eVar 0) aNil)))) (sRaise "InvalidPaper") sNx)
    (sRet (eCall tupleD (aCons (eComp (iSq (eFn 0 m_conditions aNil)) [1] (sName 1) (MM.tB (eFn 2 m_forbids_kinds (aCons (eVar 1) (aCons (eVar 0) aNil)))) (eVar 1)) aNil))))
def m_forbidding : List D → T D := runB 2 b_forbidding
theorem ok_forbidding (X : TX K w mg base tl) : OkF P w K mg base tl 3 1 "forbidding" ["kinds"] m_forbidding := OkF.mk X.d_forbidding sc_forbidding rfl fun f cdv A outer s H E hr =>
    (qb_cons (qs_if (qt_not (qt_val (QE.p (qe_callF ((ok_are_kinds X).up (by omega)) hr (takes_of rfl rfl rfl rfl) (qa_cons (qe_var 0) qa_nil))))) (qb_one (qs_raise X.c_InvalidPaper (by rfl) (takes_of rfl rfl rfl rfl))) qb_nil)
    (qb_one (qs_ret (qe_tuple (by rfl) X.n_tuple (QE.p (QO.e (qo_lc [("condition", 1)] (by rfl) sc_forbidding.nd (qi_seq (qe_callF0 ((ok_conditions X).up (by omega)) hr (takes_of rfl rfl rfl rfl))) (show blkC N_forbidding (defScope s_forbidding) _ _ = true by decide +kernel) (fun _ _ _ _ _ => (qg_name sc_forbidding.nd)) (fun _ _ _ _ _ => (qts_one (qt_val (QE.p (qe_callF ((ok_forbids_kinds X).up (by omega)) hr takes0 (qa_cons (qe_var 1) (qa_cons (qe_var 0) qa_nil))))))) (fun _ _ _ _ _ => (qe_var 1)))))))))
def b_fits_pair : MM.Env → T Fl :=
  (sSeq (sIf (MM.tOr (MM.tNot (MM.tB (eFn 3 m_is_tuple_of (aCons (eVar 0) (aCons (eC (.int 2)) (aCons (eC (.int 2)) aNil)))))) (MM.tOr (MM.tNot (MM.tB (e1 (isiD "str") (e2 ixD (eVar 0) (eC (.int 0)))))) (MM.tB (e2 notInD (e2 ixD (eVar 0) (eC (.int 0))) (eC c_KINDS))))) (sRet (eC (.bl false))) sNx)
    (sSeq (sIf (MM.tB (e2 inD (e2 ixD (eVar 0) (eC (.int 0))) (eTup (aCons (eC (.str [115, 101, 115, 115, 105, 111, 110])) (aCons (eC (.str [116, 105, 109, 101])) aNil))))) (sRet (eAnd (e1 (isiD "str") (e2 ixD (eVar 0) (eC (.int 1)))) (e2 eqD (e2 ixD (eVar 0) (eC (.int 1))) (eC (.str []))))) sNx)
    (sRet (eFn 1 m_is_name (aCons (e2 ixD (eVar 0) (eC (.int 1))) aNil)))))
def m_fits_pair : List D → T D := runB 1 b_fits_pair
theorem ok_fits_pair (X : TX K w mg base tl) : OkF P w K mg base tl 2 1 "fits_pair" ["value"] m_fits_pair := OkF.mk X.d_fits_pair sc_fits_pair rfl fun f cdv A outer s H E hr =>
    (qb_cons (qs_if (QW.t (qw_or (qt_not (qt_val (QE.p (qe_callF ((ok_is_tuple_of X).up (by omega)) hr (takes_of rfl rfl rfl rfl) (qa_cons (qe_var 0) (qa_cons qe_int (qa_cons qe_int qa_nil))))))) (qw_or (qt_not (qt_val (QE.p (qe_isi (t := "str") rfl (by rfl) X.n_isinstance (by rfl) X.n_str (by decide +kernel) (QE.p (qe_ix (u65 hr) (QE.p (qe_var 0)) (QE.p qe_int))))))) (qw_or1 (qt_cm (cm_notIn (u65 hr)) (QE.p (qe_ix (u65 hr) (QE.p (qe_var 0)) (QE.p qe_int))) (QE.p (qe_con X.k_KINDS))))))) (qb_one (qs_ret qe_bl)) qb_nil)
    (qb_cons (qs_if (qt_cm (cm_in (u65 hr)) (QE.p (qe_ix (u65 hr) (QE.p (qe_var 0)) (QE.p qe_int))) (QE.p (qe_tup (qa_cons (qe_str [115, 101, 115, 115, 105, 111, 110]) (qa_cons (qe_str [116, 105, 109, 101]) qa_nil))))) (qb_one (qs_ret (qe_and (QE.p (qe_isi (t := "str") rfl (by rfl) X.n_isinstance (by rfl) X.n_str (by decide +kernel) (QE.p (qe_ix (u65 hr) (QE.p (qe_var 0)) (QE.p qe_int))))) (qe_one (qe_cm (cm_eq hr.units) (QE.p (qe_ix (u65 hr) (QE.p (qe_var 0)) (QE.p qe_int))) (QE.p (qe_str []))))))) qb_nil)
    (qb_one (qs_ret (qe_callF ((ok_is_name X).up (by omega)) hr (takes_of rfl rfl rfl rfl) (qa_cons (qe_ix (u65 hr) (QE.p (qe_var 0)) (QE.p qe_int)) qa_nil))))))
def b_fits_shape : MM.Env → T Fl :=
  (sRet (eAnd (e1 (isiD "tuple") (eVar 0)) (eAnd (e2 gtI (eCall lenD (aCons (eVar 0) aNil)) (eC (.int 1))) (eCall allD (aCons (eComp (iSq (eVar 0)) [1] (sName 1) tYesB (eFn 1 m_fits_pair (aCons (eVar 1) aNil))) aNil)))))
def m_fits_shape : List D → T D := runB 2 b_fits_shape
theorem ok_fits_shape (X : TX K w mg base tl) : OkF P w K mg base tl 3 1 "fits_shape" ["value"] m_fits_shape := OkF.mk X.d_fits_shape sc_fits_shape rfl fun f cdv A outer s H E hr =>
    (qb_one (qs_ret (qe_and (QE.p (qe_isi (t := "tuple") rfl (by rfl) X.n_isinstance (by rfl) X.n_tuple (by decide +kernel) (QE.p (qe_var 0)))) (qe_and (QE.p (qe_cm cm_gt (QE.p (qe_len (by rfl) X.n_len (QE.p (qe_var 0)))) (QE.p qe_int))) (qe_one (qe_all (by rfl) (by rfl) X.n_all (QE.p (QO.e (qo_lc [("pair", 1)] (by rfl) sc_fits_shape.nd (qi_seq (qe_var 0)) (show blkC N_fits_shape (defScope s_fits_shape) _ _ = true by decide +kernel) (fun _ _ _ _ _ => (qg_name sc_fits_shape.nd)) (fun _ _ _ _ _ => qts_nil) (fun _ _ _ _ _ => (qe_callF ((ok_fits_pair X).up (by omega)) hr takes0 (qa_cons (qe_var 1) qa_nil))))))))))))
def b_name_with_one : MM.Env → T Fl :=
  (sSeq (sSet 2 (e2 ixD (eVar 1) (e2 subD (eMeth "list" indexD (eVar 1) (aCons (eC (.str [97, 103, 97, 105, 110])) aNil)) (eC (.int 1)))))
    (sSeq (sIf (MM.tAnd (MM.tB (e2 eqD (eCall lenD (aCons (eVar 1) aNil)) (eC (.int 2)))) (MM.tB (e2 inD (eVar 2) (eC c_BASE)))) (sRet (e1 (dgetK c_SHORT) (eVar 2))) sNx)
    (sSeq (sIf (MM.tB (e2 notInD (eC (.str [111, 118, 101, 114])) (eVar 1))) (sRet (eC (.str [109, 105, 115, 115, 101, 100, 32, 99, 97, 117, 115, 101]))) sNx)
    (sSeq (sIf (MM.tAnd (MM.tB (e2 eqD (eCall lenD (aCons (eVar 1) aNil)) (eC (.int 2)))) (MM.tB (e2 eqD (e2 ixD (e2 ixD (eVar 0) (eC (.int 0))) (eC (.int 1))) (e2 ixD (e2 ixD (eVar 0) (eC (.int 1))) (eC (.int 1)))))) (sRet (eC (.str [108, 111, 115, 116, 32, 111, 118, 101, 114, 119, 114, 105, 116, 105, 110, 103]))) sNx)
    (sRet (eIf (MM.tB (e2 eqD (eVar 2) (eC (.str [111, 118, 101, 114])))) (eC (.str [115, 108, 111, 119, 32, 111, 118, 101, 114, 119, 114, 105, 116, 105, 110, 103])) (eC (.str [108, 97, 116, 101, 32, 99, 97, 117, 115, 101]))))))))
def m_name_with_one : List D → T D := runB 3 b_name_with_one
theorem ok_name_with_one (X : TX K w mg base tl) : OkF P w K mg base tl 1 2 "name_with_one" ["shape", "kinds"] m_name_with_one := OkF.mk X.d_name_with_one sc_name_with_one rfl fun f cdv A outer s H E hr =>
    (qb_cons (qs_set (i := 2) sc_name_with_one.nd (qe_ix (u65 hr) (QE.p (qe_var 1)) (QE.p (qe_sub (QE.p (qe_index (QE.p (qe_var 1)) (QE.p (qe_str [97, 103, 97, 105, 110])))) (QE.p qe_int)))))
    (qb_cons (qs_if (QW.t (qw_and (qt_cm (cm_eq hr.units) (QE.p (qe_len (by rfl) X.n_len (QE.p (qe_var 1)))) (QE.p qe_int)) (qw_and1 (qt_cm (cm_in (u65 hr)) (QE.p (qe_var 2)) (QE.p (qe_con X.k_BASE)))))) (qb_one (qs_ret (qe_ixK X.k_SHORT (QE.p (qe_var 2))))) qb_nil)
    (qb_cons (qs_if (qt_cm (cm_notIn (u65 hr)) (QE.p (qe_str [111, 118, 101, 114])) (QE.p (qe_var 1))) (qb_one (qs_ret (qe_str [109, 105, 115, 115, 101, 100, 32, 99, 97, 117, 115, 101]))) qb_nil)
    (qb_cons (qs_if (QW.t (qw_and (qt_cm (cm_eq hr.units) (QE.p (qe_len (by rfl) X.n_len (QE.p (qe_var 1)))) (QE.p qe_int)) (qw_and1 (qt_cm (cm_eq hr.units) (QE.p (qe_ix (u65 hr) (QE.p (qe_ix (u65 hr) (QE.p (qe_var 0)) (QE.p qe_int))) (QE.p qe_int))) (QE.p (qe_ix (u65 hr) (QE.p (qe_ix (u65 hr) (QE.p (qe_var 0)) (QE.p qe_int))) (QE.p qe_int))))))) (qb_one (qs_ret (qe_str [108, 111, 115, 116, 32, 111, 118, 101, 114, 119, 114, 105, 116, 105, 110, 103]))) qb_nil)
    (qb_one (qs_ret (qe_if (qt_cm (cm_eq hr.units) (QE.p (qe_var 2)) (QE.p (qe_str [111, 118, 101, 114]))) (qe_str [115, 108, 111, 119, 32, 111, 118, 101, 114, 119, 114, 105, 116, 105, 110, 103]) (qe_str [108, 97, 116, 101, 32, 99, 97, 117, 115, 101]))))))))
def b_name_in : MM.Env → T Fl :=
  (sSeq (sOwn 1 (eComp (iSq (eVar 0)) [2, 3] (sTup [2, 3]) tYesB (eVar 2)))
    (sFrz 1 (sSeq (sOwn 4 (eComp (iArg zipD2 (aCons (e2 addD (eCut (eVar 1) (oSo (e1 negD (eC (.int 1)))) oNo) (eVar 1)) (aCons (eVar 1) aNil))) [5, 2] (sTup [5, 2]) (MM.tB (e2 eqD (eVar 2) (eC (.str [97, 103, 97, 105, 110])))) (eVar 5)))
    (sFrz 4 (sSeq (sIf (MM.tB (e2 eqD (eVar 4) (eLst aNil))) (sRet (eIf (MM.tB (e2 inD (eC (.str [111, 118, 101, 114])) (eVar 1))) (eC (.str [99, 105, 114, 99, 108, 101, 32, 111, 102, 32, 119, 114, 105, 116, 101, 115])) (eC (.str [116, 111, 108, 100, 32, 97, 104, 101, 97, 100])))) sNx)
    (sSeq (sIf (MM.tB (e2 eqD (eCall lenD (aCons (eVar 4) aNil)) (eC (.int 1)))) (sRet (eFn 2 m_name_with_one (aCons (eVar 0) (aCons (eVar 1) aNil)))) sNx)
    (sSeq (sIf (MM.tB (eCall allD (aCons (eComp (iSq (eVar 4)) [5] (sName 5) tYesB (e2 inD (eVar 5) (eC c_BASE))) aNil))) (sRet (eC (.str [108, 111, 110, 103, 32, 102, 111, 114, 107]))) sNx)
    (sSeq (sIf (MM.tB (e2 notInD (eC (.str [97, 103, 97, 105, 110])) (eVar 4))) (sRet (eC (.str [102, 111, 114, 107, 101, 100, 32, 111, 118, 101, 114, 119, 114, 105, 116, 105, 110, 103]))) sNx)
    (sRet (eIf (MM.tB (e2 eqD (eCall lenD (aCons (eVar 1) aNil)) (eC (.int 2)))) (eC (.str [115, 107, 101, 119, 101, 100, 32, 119, 114, 105, 116, 105, 110, 103])) (eC (.str [115, 107, 101, 119, 101, 100, 32, 99, 105, 114, 99, 108, 101]))))))))))))
def m_name_in : List D → T D := runB 6 b_name_in
theorem ok_name_in (X : TX K w mg base tl) : OkF P w K mg base tl 2 1 "name_in" ["shape"] m_name_in := OkF.mk X.d_name_in sc_name_in rfl fun f cdv A outer s H E hr =>
    (qb_cons (qs_setLc [("kind", 2), ("key", 3)] (by rfl) sc_name_in.nd (qi_seq (qe_var 0)) (show blkC N_name_in (defScope s_name_in) _ _ = true by decide +kernel) (fun _ _ _ _ _ => (qg_tup [2, 3] (by rfl) (pgs_cons (pg_name (i := 2) sc_name_in.nd rfl (by first | exact Or.inl rfl | exact Or.inr rfl)) (pgs_cons (pg_name (i := 3) sc_name_in.nd rfl (by first | exact Or.inl rfl | exact Or.inr rfl)) pgs_nil)))) (fun _ _ _ _ _ => qts_nil) (fun _ _ _ _ _ => (qe_var 2)) (sw_true rfl rfl rfl (by decide +kernel)))
    (qb_frz 1 (qb_cons (qs_setLc [("ahead", 5), ("kind", 2)] (by rfl) sc_name_in.nd (qi_z2 (by rfl) X.n_zip (qa_cons (qe_add (QE.p (qe_cut (QE.p (qe_var 1)) (qo_so (QE.p (qe_neg (QE.p qe_int)))) qo_no)) (QE.p (qe_var 1))) (qa_cons (qe_var 1) qa_nil))) (show blkC N_name_in (defScope s_name_in) _ _ = true by decide +kernel) (fun _ _ _ _ _ => (qg_tup [5, 2] (by rfl) (pgs_cons (pg_name (i := 5) sc_name_in.nd rfl (by first | exact Or.inl rfl | exact Or.inr rfl)) (pgs_cons (pg_name (i := 2) sc_name_in.nd rfl (by first | exact Or.inl rfl | exact Or.inr rfl)) pgs_nil)))) (fun _ _ _ _ _ => (qts_one (qt_cm (cm_eq hr.units) (QE.p (qe_var 2)) (QE.p (qe_str [97, 103, 97, 105, 110]))))) (fun _ _ _ _ _ => (qe_var 5)) (sw_true rfl rfl rfl (by decide +kernel)))
    (qb_frz 4 (qb_cons (qs_if (qt_cm (cm_eq hr.units) (QE.p (qe_var 4)) (QE.p (QO.e (qo_lst qa_nil)))) (qb_one (qs_ret (qe_if (qt_cm (cm_in (u65 hr)) (QE.p (qe_str [111, 118, 101, 114])) (QE.p (qe_var 1))) (qe_str [99, 105, 114, 99, 108, 101, 32, 111, 102, 32, 119, 114, 105, 116, 101, 115]) (qe_str [116, 111, 108, 100, 32, 97, 104, 101, 97, 100])))) qb_nil)
    (qb_cons (qs_if (qt_cm (cm_eq hr.units) (QE.p (qe_len (by rfl) X.n_len (QE.p (qe_var 4)))) (QE.p qe_int)) (qb_one (qs_ret (qe_callF ((ok_name_with_one X).up (by omega)) hr (takes_of rfl rfl rfl rfl) (qa_cons (qe_var 0) (qa_cons (qe_var 1) qa_nil))))) qb_nil)
    (qb_cons (qs_if (qt_val (QE.p (qe_all (by rfl) (by rfl) X.n_all (QE.p (QO.e (qo_lc [("ahead", 5)] (by rfl) sc_name_in.nd (qi_seq (qe_var 4)) (show blkC N_name_in (defScope s_name_in) _ _ = true by decide +kernel) (fun _ _ _ _ _ => (qg_name sc_name_in.nd)) (fun _ _ _ _ _ => qts_nil) (fun _ _ _ _ _ => (qe_cm (cm_in (u65 hr)) (QE.p (qe_var 5)) (QE.p (qe_con X.k_BASE)))))))))) (qb_one (qs_ret (qe_str [108, 111, 110, 103, 32, 102, 111, 114, 107]))) qb_nil)
    (qb_cons (qs_if (qt_cm (cm_notIn (u65 hr)) (QE.p (qe_str [97, 103, 97, 105, 110])) (QE.p (qe_var 4))) (qb_one (qs_ret (qe_str [102, 111, 114, 107, 101, 100, 32, 111, 118, 101, 114, 119, 114, 105, 116, 105, 110, 103]))) qb_nil)
    (qb_one (qs_ret (qe_if (qt_cm (cm_eq hr.units) (QE.p (qe_len (by rfl) X.n_len (QE.p (qe_var 1)))) (QE.p qe_int)) (qe_str [115, 107, 101, 119, 101, 100, 32, 119, 114, 105, 116, 105, 110, 103]) (qe_str [115, 107, 101, 119, 101, 100, 32, 99, 105, 114, 99, 108, 101]))))))))))))
def b_need_name : MM.Env → T Fl :=
  (sIf (MM.tOr (MM.tNot (MM.tB (e1 (isiD "str") (eVar 0)))) (MM.tB (e2 notInD (eVar 0) (eComp (iSq (eC c_SAMPLES)) [1] (sName 1) tYesB (e2 ixD (eVar 1) (eC (.int 0))))))) (sRaise "InvalidName") sNx)
def m_need_name : List D → T D := runB 2 b_need_name
theorem ok_need_name (X : TX K w mg base tl) : OkF P w K mg base tl 1 1 "need_name" ["name"] m_need_name := OkF.mk X.d_need_name sc_need_name rfl fun f cdv A outer s H E hr =>
    (qb_one (qs_if (QW.t (qw_or (qt_not (qt_val (QE.p (qe_isi (t := "str") rfl (by rfl) X.n_isinstance (by rfl) X.n_str (by decide +kernel) (QE.p (qe_var 0)))))) (qw_or1 (qt_cm (cm_notIn (u65 hr)) (QE.p (qe_var 0)) (QE.p (QO.e (qo_lc [("row", 1)] (by rfl) sc_need_name.nd (qi_seq (qe_con X.k_SAMPLES)) (show blkC N_need_name (defScope s_need_name) _ _ = true by decide +kernel) (fun _ _ _ _ _ => (qg_name sc_need_name.nd)) (fun _ _ _ _ _ => qts_nil) (fun _ _ _ _ _ => (qe_ix (u65 hr) (QE.p (qe_var 1)) (QE.p qe_int)))))))))) (qb_one (qs_raise X.c_InvalidName (by rfl) (takes_of rfl rfl rfl rfl))) qb_nil))
def b_ring_names : MM.Env → T Fl :=
  (sRet (eCall tupleD (aCons (eComp (iSq (eC c_SAMPLES)) [0] (sName 0) tYesB (e2 ixD (eVar 0) (eC (.int 0)))) aNil)))
def m_ring_names : List D → T D := runB 1 b_ring_names
theorem ok_ring_names (X : TX K w mg base tl) : OkF P w K mg base tl 1 0 "ring_names" [] m_ring_names := OkF.mk X.d_ring_names sc_ring_names rfl fun f cdv A outer s H E hr =>
    (qb_one (qs_ret (qe_tuple (by rfl) X.n_tuple (QE.p (QO.e (qo_lc [("row", 0)] (by rfl) sc_ring_names.nd (qi_seq (qe_con X.k_SAMPLES)) (show blkC N_ring_names (defScope s_ring_names) _ _ = true by decide +kernel) (fun _ _ _ _ _ => (qg_name sc_ring_names.nd)) (fun _ _ _ _ _ => qts_nil) (fun _ _ _ _ _ => (qe_ix (u65 hr) (QE.p (qe_var 0)) (QE.p qe_int)))))))))
def b_is_shape : MM.Env → T Fl :=
  (sRet (eFn 1 m_fits_shape (aCons (eVar 0) aNil)))
def m_is_shape : List D → T D := runB 1 b_is_shape
theorem ok_is_shape (X : TX K w mg base tl) : OkF P w K mg base tl 4 1 "is_shape" ["value"] m_is_shape := OkF.mk X.d_is_shape sc_is_shape rfl fun f cdv A outer s H E hr =>
    (qb_one (qs_ret (qe_callF ((ok_fits_shape X).up (by omega)) hr (takes_of rfl rfl rfl rfl) (qa_cons (qe_var 0) qa_nil))))
def b_name_of : MM.Env → T Fl :=
  (sSeq (sIf (MM.tNot (MM.tB (eFn 1 m_fits_shape (aCons (eVar 0) aNil)))) (sRaise "InvalidPaper") sNx)
    (sRet (eFn 1 m_name_in (aCons (eVar 0) aNil))))
def m_name_of : List D → T D := runB 1 b_name_of
theorem ok_name_of (X : TX K w mg base tl) : OkF P w K mg base tl 4 1 "name_of" ["shape"] m_name_of := OkF.mk X.d_name_of sc_name_of rfl fun f cdv A outer s H E hr =>
    (qb_cons (qs_if (qt_not (qt_val (QE.p (qe_callF ((ok_fits_shape X).up (by omega)) hr (takes_of rfl rfl rfl rfl) (qa_cons (qe_var 0) qa_nil))))) (qb_one (qs_raise X.c_InvalidPaper (by rfl) (takes_of rfl rfl rfl rfl))) qb_nil)
    (qb_one (qs_ret (qe_callF ((ok_name_in X).up (by omega)) hr (takes_of rfl rfl rfl rfl) (qa_cons (qe_var 0) qa_nil)))))
def b_against : MM.Env → T Fl :=
  (sSeq (sDrop (eFn 1 m_need_name (aCons (eVar 0) aNil)))
    (sSeq (sSet 1 (e2 ixD (e2 ixD (eC (.dic (mergeD [] kv_SAMPLES))) (eVar 0)) (eC (.int 0))))
    (sRet (eCall tupleD (aCons (eComp (iSq (eC c_CONDITIONS)) [2] (sName 2) (MM.tAnd (MM.tB (e2 eqD (eCut (eVar 2) oNo (oSo (eCall lenD (aCons (eC c_STRICT) aNil)))) (eC c_STRICT))) (MM.tB (eFn 2 m_forbids_kinds (aCons (eVar 2) (aCons (eVar 1) aNil))))) (eVar 2)) aNil)))))
def m_against : List D → T D := runB 3 b_against
theorem ok_against (X : TX K w mg base tl) : OkF P w K mg base tl 3 1 "against" ["name"] m_against := OkF.mk X.d_against sc_against rfl fun f cdv A outer s H E hr =>
    (qb_cons (qs_expr (qe_callF ((ok_need_name X).up (by omega)) hr (takes_of rfl rfl rfl rfl) (qa_cons (qe_var 0) qa_nil)))
    (qb_cons (qs_set (i := 1) sc_against.nd (qe_ix (u65 hr) (QE.p (qe_ix (u65 hr) (QE.p (QO.e (qo_dictC (by rfl) (by rfl) X.n_dict X.k_SAMPLES X.b_SAMPLES (kvs := kv_SAMPLES) (by rfl) (by rfl)))) (QE.p (qe_var 0)))) (QE.p qe_int)))
    (qb_one (qs_ret (qe_tuple (by rfl) X.n_tuple (QE.p (QO.e (qo_lc [("word", 2)] (by rfl) sc_against.nd (qi_seq (qe_con X.k_CONDITIONS)) (show blkC N_against (defScope s_against) _ _ = true by decide +kernel) (fun _ _ _ _ _ => (qg_name sc_against.nd)) (fun _ _ _ _ _ => (qts_one (QW.t (qw_and (qt_cm (cm_eq hr.units) (QE.p (qe_cut (QE.p (qe_var 2)) qo_no (qo_so (QE.p (qe_len (by rfl) X.n_len (QE.p (qe_con X.k_STRICT))))))) (QE.p (qe_con X.k_STRICT))) (qw_and1 (qt_val (QE.p (qe_callF ((ok_forbids_kinds X).up (by omega)) hr takes0 (qa_cons (qe_var 2) (qa_cons (qe_var 1) qa_nil)))))))))) (fun _ _ _ _ _ => (qe_var 2))))))))))
def b_gap_names : MM.Env → T Fl :=
  (sSeq (sDrop (eFn 1 m_need_condition (aCons (eVar 0) aNil)))
    (sSeq (sDrop (eFn 1 m_need_condition (aCons (eVar 1) aNil)))
    (sSeq (sOwn 2 (eLst aNil))
    (sSeq (sFor (iSq (eC c_SAMPLES)) (sTup [3, 4]) (sIf (MM.tB (eCall anyD (aCons (eComp (iSq (eVar 4)) [5] (sName 5) tYesB (eAnd (eFn 2 m_forbids_kinds (aCons (eVar 1) (aCons (eVar 5) aNil))) (eNot (eFn 2 m_forbids_kinds (aCons (eVar 0) (aCons (eVar 5) aNil)))))) aNil))) (sApp 2 (eVar 3)) sNx))
    (sRet (eCall tupleD (aCons (pVar 2) aNil)))))))
def m_gap_names : List D → T D := runB 6 b_gap_names
theorem ok_gap_names (X : TX K w mg base tl) : OkF P w K mg base tl 3 2 "gap_names" ["one", "other"] m_gap_names := OkF.mk X.d_gap_names sc_gap_names rfl fun f cdv A outer s H E hr =>
    (qb_cons (qs_expr (qe_callF ((ok_need_condition X).up (by omega)) hr (takes_of rfl rfl rfl rfl) (qa_cons (qe_var 0) qa_nil)))
    (qb_cons (qs_expr (qe_callF ((ok_need_condition X).up (by omega)) hr (takes_of rfl rfl rfl rfl) (qa_cons (qe_var 1) qa_nil)))
    (qb_cons (qs_own (i := 2) sc_gap_names.nd (qo_lst qa_nil))
    (qb_cons (qs_for (passes_of rfl) (by rfl) (qi_seq (qe_con X.k_SAMPLES)) (qg_tup [3, 4] (by rfl) (pgs_cons (pg_name (i := 3) sc_gap_names.nd rfl (by first | exact Or.inl rfl | exact Or.inr rfl)) (pgs_cons (pg_name (i := 4) sc_gap_names.nd rfl (by first | exact Or.inl rfl | exact Or.inr rfl)) pgs_nil))) (qb_one (qs_if (qt_val (QE.p (qe_any (by rfl) (by rfl) X.n_any (QE.p (QO.e (qo_lc [("kinds", 5)] (by rfl) sc_gap_names.nd (qi_seq (qe_var 4)) (show blkC N_gap_names (defScope s_gap_names) _ _ = true by decide +kernel) (fun _ _ _ _ _ => (qg_name sc_gap_names.nd)) (fun _ _ _ _ _ => qts_nil) (fun _ _ _ _ _ => (qe_and (QE.p (qe_callF ((ok_forbids_kinds X).up (by omega)) hr takes0 (qa_cons (qe_var 1) (qa_cons (qe_var 5) qa_nil)))) (qe_one (qe_not (QE.p (qe_callF ((ok_forbids_kinds X).up (by omega)) hr takes0 (qa_cons (qe_var 0) (qa_cons (qe_var 5) qa_nil)))))))))))))) (qb_one (qs_app 2 (ha := (qe_var 3)))) qb_nil)))
    (qb_one (qs_ret (qe_tuple (by rfl) X.n_tuple (qp_var 2))))))))
theorem ok__law_some (X : TX K w mg base tl) : OkF P w K mg base tl 2 2 "_law_some" ["cup", "things"] m_some := OkF.mk X.d__law_some sc__law_some rfl fun f cdv A outer s H E hr =>
    (qb_one (qs_ret (qe_ix (u65 hr) (QE.p (qe_var 1)) (QE.p (qe_callF ((ok__law_roll X).up (by omega)) hr (takes_of rfl rfl rfl rfl) (qa_cons (qe_var 0) (qa_cons (qe_len (by rfl) X.n_len (QE.p (qe_var 1))) qa_nil)))))))
theorem ok__law_sort (X : TX K w mg base tl) : OkF P w K mg base tl 1 1 "_law_sort" ["value"] m_sort := OkF.mk X.d__law_sort sc__law_sort rfl fun f cdv A outer s H E hr =>
    (qb_cons (qs_if (QW.t (qw_or (qt_cm cm_is (QE.p (qe_var 0)) (QE.p qe_non)) (qw_or1 (qt_val (QE.p (qe_isi (t := "bool") rfl (by rfl) X.n_isinstance (by rfl) X.n_bool (by decide +kernel) (QE.p (qe_var 0)))))))) (qb_one (qs_ret (qe_if (qt_cm cm_is (QE.p (qe_var 0)) (QE.p qe_non)) qe_int qe_int))) qb_nil)
    (qb_cons (qs_if (QW.t (qw_or (qt_val (QE.p (qe_isi (t := "int") rfl (by rfl) X.n_isinstance (by rfl) X.n_int (by decide +kernel) (QE.p (qe_var 0))))) (qw_or1 (qt_val (QE.p (qe_isi (t := "str") rfl (by rfl) X.n_isinstance (by rfl) X.n_str (by decide +kernel) (QE.p (qe_var 0)))))))) (qb_one (qs_ret (qe_if (qt_val (QE.p (qe_isi (t := "int") rfl (by rfl) X.n_isinstance (by rfl) X.n_int (by decide +kernel) (QE.p (qe_var 0))))) qe_int qe_int))) qb_nil)
    (qb_one (qs_ret (qe_if (qt_val (QE.p (qe_isi (t := "tuple") rfl (by rfl) X.n_isinstance (by rfl) X.n_tuple (by decide +kernel) (QE.p (qe_var 0))))) qe_int (qe_if (qt_val (QE.p (qe_isi (t := "list") rfl (by rfl) X.n_isinstance (by rfl) X.n_list (by decide +kernel) (QE.p (qe_var 0))))) qe_int qe_int))))))
theorem okr__law_like (X : TX K w mg base tl) : ∀ k, OkF P w K mg base tl (k + 1) 2 "_law_like" ["one", "other"] (r_like k)
  | 0 => OkF.bad X.d__law_like
  | k + 1 => by
    have ih := okr__law_like X k
    rw [show k + 1 + 1 = (k + 1) + 1 by omega]
    exact OkF.mk X.d__law_like sc__law_like rfl fun f cdv A outer s H E hr =>
    (qb_cons (qs_set (i := 2) sc__law_like.nd (qe_callF ((ok__law_sort X).up (by omega)) hr (takes_of rfl rfl rfl rfl) (qa_cons (qe_var 1) qa_nil)))
    (qb_cons (qs_if (QW.t (qw_or (qt_cm (cm_ne hr.units) (QE.p (qe_callF ((ok__law_sort X).up (by omega)) hr (takes_of rfl rfl rfl rfl) (qa_cons (qe_var 0) qa_nil))) (QE.p (qe_var 2))) (qw_or1 (qt_cm (cm_eq hr.units) (QE.p (qe_var 2)) (QE.p qe_int))))) (qb_one (qs_ret qe_bl)) qb_nil)
    (qb_cons (qs_if (qt_cm (cm_in (u65 hr)) (QE.p (qe_var 2)) (QE.p (qe_tup (qa_cons qe_int (qa_cons qe_int qa_nil))))) (qb_one (qs_ret (qe_and (QE.p (qe_cm (cm_eq hr.units) (QE.p (qe_len (by rfl) X.n_len (QE.p (qe_var 0)))) (QE.p (qe_len (by rfl) X.n_len (QE.p (qe_var 1)))))) (qe_one (qe_cm (cm_eq hr.units) (QE.p (QO.e (qo_lc [("first", 3), ("second", 4)] (by rfl) sc__law_like.nd (qi_zip (by rfl) X.n_zip (qa_cons (qe_var 0) (qa_cons (qe_var 1) qa_nil))) (show blkC N__law_like (defScope s__law_like) _ _ = true by decide +kernel) (fun _ _ _ _ _ => (qg_tup [3, 4] (by rfl) (pgs_cons (pg_name (i := 3) sc__law_like.nd rfl (by first | exact Or.inl rfl | exact Or.inr rfl)) (pgs_cons (pg_name (i := 4) sc__law_like.nd rfl (by first | exact Or.inl rfl | exact Or.inr rfl)) pgs_nil)))) (fun _ _ _ _ _ => (qts_one (qt_not (qt_val (QE.p (qe_callF ih hr takes0 (qa_cons (qe_var 3) (qa_cons (qe_var 4) qa_nil)))))))) (fun _ _ _ _ _ => qe_int)))) (QE.p (QO.e (qo_lst qa_nil)))))))) qb_nil)
    (qb_one (qs_ret (qe_cm (cm_eq hr.units) (QE.p (qe_var 0)) (QE.p (qe_var 1))))))))
theorem ok__law_like (X : TX K w mg base tl) : OkF P w K mg base tl 9 2 "_law_like" ["one", "other"] (r_like 8) := okr__law_like X 8
def b__law_name : MM.Env → T Fl :=
  (sSeq (sAsg (sTup [2, 3]) (eTup (aCons (eC (.str [97, 98, 99, 100, 101, 102, 103, 104, 105, 106, 107, 108, 109, 110, 111, 112, 113, 114, 115, 116, 117, 118, 119, 120, 121, 122])) (aCons (eC (.str [48, 49, 50, 51, 52, 53, 54, 55, 56, 57])) aNil))))
    (sSeq (sFor (iArg rng1 (aCons (eC (.int 3)) aNil)) (sName 4) (sSeq (sSet 5 (eFn 2 m_some (aCons (eVar 0) (aCons (eVar 2) aNil))))
    (sSeq (sFor (iArg rng1 (aCons (eFn 2 m_some (aCons (eVar 0) (aCons (eLst (aCons (eC (.int 0)) (aCons (eC (.int 0)) (aCons (eC (.int 0)) (aCons (eC (.int 1)) (aCons (eC (.int 2)) (aCons (eC (.int 11)) aNil))))))) aNil))) aNil)) (sName 6) (sSet 5 (e2 addD (eVar 5) (eFn 2 m_some (aCons (eVar 0) (aCons (e2 addD (eVar 2) (eVar 3)) aNil))))))
    (sIf (MM.tB (e2 notInD (eVar 5) (eVar 1))) (sRet (eVar 5)) sNx))))
    (sRet (e2 ixD (eComp (iSq (eComp (iArg rng1 (aCons (eC (.int 70)) aNil)) [7] (sName 7) tYesB (e2 addD (eC (.str [110])) (eCall strD (aCons (eVar 7) aNil))))) [5] (sName 5) (MM.tB (e2 notInD (eVar 5) (eVar 1))) (eVar 5)) (eC (.int 0))))))
def m__law_name : List D → T D := runB 8 b__law_name
theorem ok__law_name (X : TX K w mg base tl) : OkF P w K mg base tl 3 2 "_law_name" ["cup", "taken"] m__law_name := OkF.mk X.d__law_name sc__law_name rfl fun f cdv A outer s H E hr =>
    (qb_cons (qs_asg (qe_tup (qa_cons (qe_str [97, 98, 99, 100, 101, 102, 103, 104, 105, 106, 107, 108, 109, 110, 111, 112, 113, 114, 115, 116, 117, 118, 119, 120, 121, 122]) (qa_cons (qe_str [48, 49, 50, 51, 52, 53, 54, 55, 56, 57]) qa_nil))) (qg_tup [2, 3] (by rfl) (pgs_cons (pg_name (i := 2) sc__law_name.nd rfl (by first | exact Or.inl rfl | exact Or.inr rfl)) (pgs_cons (pg_name (i := 3) sc__law_name.nd rfl (by first | exact Or.inl rfl | exact Or.inr rfl)) pgs_nil))))
    (qb_cons (qs_for (passes_of rfl) (by rfl) (qi_range1 (by rfl) X.n_range (qap_cons (QE.p qe_int) qap_nil)) (qg_name sc__law_name.nd) (qb_cons (qs_set (i := 5) sc__law_name.nd (qe_callF ((ok__law_some X).up (by omega)) hr (takes_of rfl rfl rfl rfl) (qa_cons (qe_var 0) (qa_cons (qe_var 2) qa_nil))))
    (qb_cons (qs_for (passes_of rfl) (by rfl) (qi_range1 (by rfl) X.n_range (qap_cons (QE.p (qe_callF ((ok__law_some X).up (by omega)) hr (takes_of rfl rfl rfl rfl) (qa_cons (qe_var 0) (qa_cons (QO.e (qo_lst (qa_cons qe_int (qa_cons qe_int (qa_cons qe_int (qa_cons qe_int (qa_cons qe_int (qa_cons qe_int qa_nil)))))))) qa_nil)))) qap_nil)) (qg_name sc__law_name.nd) (qb_one (qs_set (i := 5) sc__law_name.nd (qe_add (QE.p (qe_var 5)) (QE.p (qe_callF ((ok__law_some X).up (by omega)) hr (takes_of rfl rfl rfl rfl) (qa_cons (qe_var 0) (qa_cons (qe_add (QE.p (qe_var 2)) (QE.p (qe_var 3))) qa_nil))))))))
    (qb_one (qs_if (qt_cm (cm_notIn (u65 hr)) (QE.p (qe_var 5)) (QE.p (qe_var 1))) (qb_one (qs_ret (qe_var 5))) qb_nil)))))
    (qb_one (qs_ret (qe_ix (u65 hr) (QE.p (QO.e (qo_lc [("name", 5)] (by rfl) sc__law_name.nd (qi_seq (QO.e (qo_lc [("number", 7)] (by rfl) sc__law_name.nd (qi_range1 (by rfl) X.n_range (qap_cons (QE.p qe_int) qap_nil)) (show blkC N__law_name (defScope s__law_name) _ _ = true by decide +kernel) (fun _ _ _ _ _ => (qg_name sc__law_name.nd)) (fun _ _ _ _ _ => qts_nil) (fun _ _ _ _ _ => (qe_add (QE.p (qe_str [110])) (QE.p (qe_str1 (by rfl) X.n_str (QE.p (qe_var 7))))))))) (show blkC N__law_name (defScope s__law_name) _ _ = true by decide +kernel) (fun _ _ _ _ _ => (qg_name sc__law_name.nd)) (fun _ _ _ _ _ => (qts_one (qt_cm (cm_notIn (u65 hr)) (QE.p (qe_var 5)) (QE.p (qe_var 1))))) (fun _ _ _ _ _ => (qe_var 5))))) (QE.p qe_int))))))
def b__law_names : MM.Env → T Fl :=
  (sSeq (sOwn 2 (eLst aNil))
    (sSeq (sFor (iArg rng1 (aCons (eVar 1) aNil)) (sName 3) (sApp 2 (eFnLk 2 2 m__law_name (fCons false (eVar 0) (lVar 2 fNil)))))
    (sRet (e1 sortedD (pVar 2)))))
def m__law_names : List D → T D := runB 4 b__law_names
theorem ok__law_names (X : TX K w mg base tl) : OkF P w K mg base tl 4 2 "_law_names" ["cup", "many"] m__law_names := OkF.mk X.d__law_names sc__law_names rfl fun f cdv A outer s H E hr =>
    (qb_cons (qs_own (i := 2) sc__law_names.nd (qo_lst qa_nil))
    (qb_cons (qs_for (passes_of rfl) (by rfl) (qi_range1 (by rfl) X.n_range (qap_cons (QE.p (qe_var 1)) qap_nil)) (qg_name sc__law_names.nd) (qb_one (qs_app 2 (ha := (qe_callLk ((ok__law_name X).up (by omega)) hr (takes_of rfl rfl rfl rfl) (ql_cons (qe_var 0) (ql_var ql_nil)))))))
    (qb_one (qs_ret (QO.e (qo_sorted (by rfl) (u65 hr) (by rfl) X.n_sorted (qp_var 2)))))))
def b__law_conditions : MM.Env → T Fl :=
  (sSeq (sSet 0 (eLst (aCons (eC (.str [97, 116, 111, 109, 105, 99])) (aCons (eC (.str [99, 97, 117, 115, 97, 108])) (aCons (eC (.str [112, 97, 114, 97, 108, 108, 101, 108])) (aCons (eC (.str [112, 114, 101, 102, 105, 120])) (aCons (eC (.str [115, 110, 97, 112, 115, 104, 111, 116])) (aCons (eC (.str [115, 101, 114, 105, 97, 108])) aNil))))))))
    (sRet (e2 addD (eVar 0) (eComp (iSq (eVar 0)) [1] (sName 1) tYesB (e2 addD (eC (.str [115, 116, 114, 105, 99, 116, 32])) (eVar 1))))))
def m__law_conditions : List D → T D := runB 2 b__law_conditions
theorem ok__law_conditions (X : TX K w mg base tl) : OkF P w K mg base tl 1 0 "_law_conditions" [] m__law_conditions := OkF.mk X.d__law_conditions sc__law_conditions rfl fun f cdv A outer s H E hr =>
    (qb_cons (qs_set (i := 0) sc__law_conditions.nd (QO.e (qo_lst (qa_cons (qe_str [97, 116, 111, 109, 105, 99]) (qa_cons (qe_str [99, 97, 117, 115, 97, 108]) (qa_cons (qe_str [112, 97, 114, 97, 108, 108, 101, 108]) (qa_cons (qe_str [112, 114, 101, 102, 105, 120]) (qa_cons (qe_str [115, 110, 97, 112, 115, 104, 111, 116]) (qa_cons (qe_str [115, 101, 114, 105, 97, 108]) qa_nil)))))))))
    (qb_one (qs_ret (qe_add (QE.p (qe_var 0)) (QE.p (QO.e (qo_lc [("word", 1)] (by rfl) sc__law_conditions.nd (qi_seq (qe_var 0)) (show blkC N__law_conditions (defScope s__law_conditions) _ _ = true by decide +kernel) (fun _ _ _ _ _ => (qg_name sc__law_conditions.nd)) (fun _ _ _ _ _ => qts_nil) (fun _ _ _ _ _ => (qe_add (QE.p (qe_str [115, 116, 114, 105, 99, 116, 32])) (QE.p (qe_var 1)))))))))))
def b__law_forbids : MM.Env → T Fl :=
  (sSeq (sAsg (sTup [2, 3]) (eTup (aCons (e2 ixD (eMeth "str" splitD (eVar 0) (aCons (eC (.str [32])) aNil)) (e1 negD (eC (.int 1)))) (aCons (eComp (iSq (eVar 1)) [4] (sName 4) tYesB (eIf (MM.tB (e2 eqD (eVar 4) (eC (.str [97, 103, 97, 105, 110])))) (eC (.str [97, 103, 97, 105, 110])) (eIf (MM.tB (e2 eqD (eVar 4) (eC (.str [111, 118, 101, 114])))) (eC (.str [111, 118, 101, 114])) (eC (.str [98, 97, 115, 101]))))) aNil))))
    (sSeq (sOwn 5 (eComp (iArg rng1 (aCons (eCall lenD (aCons (eVar 3) aNil)) aNil)) [6] (sName 6) (MM.tB (e2 eqD (e2 ixD (eVar 3) (eVar 6)) (eC (.str [97, 103, 97, 105, 110])))) (e2 ixD (eVar 3) (e2 subD (eVar 6) (eC (.int 1))))))
    (sFrz 5 (sSeq (sIf (MM.tAnd (MM.tB (e2 inD (eC (.str [116, 105, 109, 101])) (eVar 1))) (MM.tB (e2 eqD (eVar 2) (eVar 0)))) (sRet (eC (.bl false))) sNx)
    (sSeq (sIf (MM.tB (e2 eqD (eVar 2) (eC (.str [97, 116, 111, 109, 105, 99])))) (sRet (eOr (e2 eqD (eVar 5) (eLst aNil)) (eAnd (e2 eqD (eCall lenD (aCons (eVar 3) aNil)) (eC (.int 2))) (e2 eqD (eVar 5) (eLst (aCons (eC (.str [98, 97, 115, 101])) aNil)))))) sNx)
    (sSeq (sIf (MM.tB (e2 eqD (eVar 2) (eC (.str [99, 97, 117, 115, 97, 108])))) (sRet (eOr (e2 eqD (eVar 5) (eLst aNil)) (eAnd (e2 eqD (eCall lenD (aCons (eVar 5) aNil)) (eC (.int 1))) (e2 notInD (eC (.str [111, 118, 101, 114])) (eVar 3))))) sNx)
    (sSeq (sIf (MM.tB (e2 eqD (eVar 2) (eC (.str [112, 97, 114, 97, 108, 108, 101, 108])))) (sRet (e2 ltD (eCall lenD (aCons (eVar 5) aNil)) (eC (.int 2)))) sNx)
    (sSeq (sIf (MM.tB (e2 eqD (eVar 2) (eC (.str [112, 114, 101, 102, 105, 120])))) (sRet (e2 eqD (eComp (iSq (eVar 5)) [7] (sName 7) (MM.tB (e2 neD (eVar 7) (eC (.str [98, 97, 115, 101])))) (eVar 7)) (eLst aNil))) sNx)
    (sRet (eOr (e2 eqD (eVar 2) (eC (.str [115, 101, 114, 105, 97, 108]))) (e2 notInD (eC (.str [97, 103, 97, 105, 110])) (eVar 5))))))))))))
def m__law_forbids : List D → T D := runB 8 b__law_forbids
theorem ok__law_forbids (X : TX K w mg base tl) : OkF P w K mg base tl 1 2 "_law_forbids" ["condition", "kinds"] m__law_forbids := OkF.mk X.d__law_forbids sc__law_forbids rfl fun f cdv A outer s H E hr =>
    (qb_cons (qs_asg (qe_tup (qa_cons (qe_ix (u65 hr) (QE.p (qe_split (QE.p (qe_var 0)) (QE.p (qe_str [32])))) (QE.p (qe_neg (QE.p qe_int)))) (qa_cons (QO.e (qo_lc [("kind", 4)] (by rfl) sc__law_forbids.nd (qi_seq (qe_var 1)) (show blkC N__law_forbids (defScope s__law_forbids) _ _ = true by decide +kernel) (fun _ _ _ _ _ => (qg_name sc__law_forbids.nd)) (fun _ _ _ _ _ => qts_nil) (fun _ _ _ _ _ => (qe_if (qt_cm (cm_eq hr.units) (QE.p (qe_var 4)) (QE.p (qe_str [97, 103, 97, 105, 110]))) (qe_str [97, 103, 97, 105, 110]) (qe_if (qt_cm (cm_eq hr.units) (QE.p (qe_var 4)) (QE.p (qe_str [111, 118, 101, 114]))) (qe_str [111, 118, 101, 114]) (qe_str [98, 97, 115, 101])))))) qa_nil))) (qg_tup [2, 3] (by rfl) (pgs_cons (pg_name (i := 2) sc__law_forbids.nd rfl (by first | exact Or.inl rfl | exact Or.inr rfl)) (pgs_cons (pg_name (i := 3) sc__law_forbids.nd rfl (by first | exact Or.inl rfl | exact Or.inr rfl)) pgs_nil))))
    (qb_cons (qs_setLc [("at", 6)] (by rfl) sc__law_forbids.nd (qi_range1 (by rfl) X.n_range (qap_cons (QE.p (qe_len (by rfl) X.n_len (QE.p (qe_var 3)))) qap_nil)) (show blkC N__law_forbids (defScope s__law_forbids) _ _ = true by decide +kernel) (fun _ _ _ _ _ => (qg_name sc__law_forbids.nd)) (fun _ _ _ _ _ => (qts_one (qt_cm (cm_eq hr.units) (QE.p (qe_ix (u65 hr) (QE.p (qe_var 3)) (QE.p (qe_var 6)))) (QE.p (qe_str [97, 103, 97, 105, 110]))))) (fun _ _ _ _ _ => (qe_ix (u65 hr) (QE.p (qe_var 3)) (QE.p (qe_sub (QE.p (qe_var 6)) (QE.p qe_int))))) (sw_true rfl rfl rfl (by decide +kernel)))
    (qb_frz 5 (qb_cons (qs_if (QW.t (qw_and (qt_cm (cm_in (u65 hr)) (QE.p (qe_str [116, 105, 109, 101])) (QE.p (qe_var 1))) (qw_and1 (qt_cm (cm_eq hr.units) (QE.p (qe_var 2)) (QE.p (qe_var 0)))))) (qb_one (qs_ret qe_bl)) qb_nil)
    (qb_cons (qs_if (qt_cm (cm_eq hr.units) (QE.p (qe_var 2)) (QE.p (qe_str [97, 116, 111, 109, 105, 99]))) (qb_one (qs_ret (qe_or (QE.p (qe_cm (cm_eq hr.units) (QE.p (qe_var 5)) (QE.p (QO.e (qo_lst qa_nil))))) (qe_one (qe_and (QE.p (qe_cm (cm_eq hr.units) (QE.p (qe_len (by rfl) X.n_len (QE.p (qe_var 3)))) (QE.p qe_int))) (qe_one (qe_cm (cm_eq hr.units) (QE.p (qe_var 5)) (QE.p (QO.e (qo_lst (qa_cons (qe_str [98, 97, 115, 101]) qa_nil))))))))))) qb_nil)
    (qb_cons (qs_if (qt_cm (cm_eq hr.units) (QE.p (qe_var 2)) (QE.p (qe_str [99, 97, 117, 115, 97, 108]))) (qb_one (qs_ret (qe_or (QE.p (qe_cm (cm_eq hr.units) (QE.p (qe_var 5)) (QE.p (QO.e (qo_lst qa_nil))))) (qe_one (qe_and (QE.p (qe_cm (cm_eq hr.units) (QE.p (qe_len (by rfl) X.n_len (QE.p (qe_var 5)))) (QE.p qe_int))) (qe_one (qe_cm (cm_notIn (u65 hr)) (QE.p (qe_str [111, 118, 101, 114])) (QE.p (qe_var 3))))))))) qb_nil)
    (qb_cons (qs_if (qt_cm (cm_eq hr.units) (QE.p (qe_var 2)) (QE.p (qe_str [112, 97, 114, 97, 108, 108, 101, 108]))) (qb_one (qs_ret (qe_cm cm_ltS (QE.p (qe_len (by rfl) X.n_len (QE.p (qe_var 5)))) (QE.p qe_int)))) qb_nil)
    (qb_cons (qs_if (qt_cm (cm_eq hr.units) (QE.p (qe_var 2)) (QE.p (qe_str [112, 114, 101, 102, 105, 120]))) (qb_one (qs_ret (qe_cm (cm_eq hr.units) (QE.p (QO.e (qo_lc [("one", 7)] (by rfl) sc__law_forbids.nd (qi_seq (qe_var 5)) (show blkC N__law_forbids (defScope s__law_forbids) _ _ = true by decide +kernel) (fun _ _ _ _ _ => (qg_name sc__law_forbids.nd)) (fun _ _ _ _ _ => (qts_one (qt_cm (cm_ne hr.units) (QE.p (qe_var 7)) (QE.p (qe_str [98, 97, 115, 101]))))) (fun _ _ _ _ _ => (qe_var 7))))) (QE.p (QO.e (qo_lst qa_nil)))))) qb_nil)
    (qb_one (qs_ret (qe_or (QE.p (qe_cm (cm_eq hr.units) (QE.p (qe_var 2)) (QE.p (qe_str [115, 101, 114, 105, 97, 108])))) (qe_one (qe_cm (cm_notIn (u65 hr)) (QE.p (qe_str [97, 103, 97, 105, 110])) (QE.p (qe_var 5)))))))))))))))
def b__law_shape_name : MM.Env → T Fl :=
  (sSeq (sSet 1 (eComp (iSq (eVar 0)) [2] (sName 2) tYesB (e2 ixD (eVar 2) (eC (.int 0)))))
    (sSeq (sPar 3 4 (aCons (eComp (iArg rng1 (aCons (eCall lenD (aCons (eVar 1) aNil)) aNil)) [5] (sName 5) (MM.tB (e2 eqD (e2 ixD (eVar 1) (eVar 5)) (eC (.str [111, 118, 101, 114])))) (eVar 5)) (aCons (eComp (iArg rng1 (aCons (eCall lenD (aCons (eVar 1) aNil)) aNil)) [5] (sName 5) (MM.tB (e2 eqD (e2 ixD (eVar 1) (eVar 5)) (eC (.str [97, 103, 97, 105, 110])))) (eVar 5)) aNil)))
    (sSeq (sOwn 6 (eComp (iSq (eVar 4)) [5] (sName 5) tYesB (e2 ixD (eVar 1) (e2 subD (eVar 5) (eC (.int 1))))))
    (sFrz 6 (sSeq (sIf (MM.tB (e2 eqD (eVar 4) (eLst aNil))) (sRet (eIf (MM.tB (e2 eqD (eVar 3) (eLst aNil))) (eC (.str [116, 111, 108, 100, 32, 97, 104, 101, 97, 100])) (eC (.str [99, 105, 114, 99, 108, 101, 32, 111, 102, 32, 119, 114, 105, 116, 101, 115])))) sNx)
    (sSeq (sIf (MM.tAnd (MM.tB (e2 eqD (eCall lenD (aCons (eVar 4) aNil)) (eC (.int 1)))) (MM.tB (e2 eqD (eVar 3) (eLst aNil)))) (sRet (eIf (MM.tB (e2 eqD (eCall lenD (aCons (eVar 1) aNil)) (eC (.int 2)))) (e2 ixD (eDisp (prCons (eC (.str [115, 101, 115, 115, 105, 111, 110])) (eC (.str [117, 110, 114, 101, 97, 100, 32, 115, 101, 115, 115, 105, 111, 110])) (prCons (eC (.str [114, 101, 97, 100])) (eC (.str [116, 111, 114, 110, 32, 114, 101, 97, 100, 105, 110, 103])) (prCons (eC (.str [116, 105, 109, 101])) (eC (.str [108, 97, 116, 101, 32, 114, 101, 97, 100, 105, 110, 103])) prNil)))) (e2 ixD (eVar 6) (eC (.int 0)))) (eC (.str [109, 105, 115, 115, 101, 100, 32, 99, 97, 117, 115, 101])))) sNx)
    (sSeq (sIf (MM.tAnd (MM.tB (e2 eqD (eCall lenD (aCons (eVar 4) aNil)) (eC (.int 1)))) (MM.tB (e2 eqD (eVar 6) (eLst (aCons (eC (.str [111, 118, 101, 114])) aNil))))) (sRet (eIf (MM.tAnd (MM.tB (e2 eqD (eCall lenD (aCons (eVar 1) aNil)) (eC (.int 2)))) (MM.tB (e2 eqD (e2 ixD (e2 ixD (eVar 0) (eC (.int 0))) (eC (.int 1))) (e2 ixD (e2 ixD (eVar 0) (eC (.int 1))) (eC (.int 1)))))) (eC (.str [108, 111, 115, 116, 32, 111, 118, 101, 114, 119, 114, 105, 116, 105, 110, 103])) (eC (.str [115, 108, 111, 119, 32, 111, 118, 101, 114, 119, 114, 105, 116, 105, 110, 103])))) sNx)
    (sSeq (sIf (MM.tB (e2 eqD (eCall lenD (aCons (eVar 4) aNil)) (eC (.int 1)))) (sRet (eC (.str [108, 97, 116, 101, 32, 99, 97, 117, 115, 101]))) sNx)
    (sSeq (sIf (MM.tB (e2 inD (eC (.str [97, 103, 97, 105, 110])) (eVar 6))) (sRet (eIf (MM.tB (e2 eqD (eCall lenD (aCons (eVar 1) aNil)) (eC (.int 2)))) (eC (.str [115, 107, 101, 119, 101, 100, 32, 119, 114, 105, 116, 105, 110, 103])) (eC (.str [115, 107, 101, 119, 101, 100, 32, 99, 105, 114, 99, 108, 101])))) sNx)
    (sRet (eIf (MM.tB (e2 inD (eC (.str [111, 118, 101, 114])) (eVar 6))) (eC (.str [102, 111, 114, 107, 101, 100, 32, 111, 118, 101, 114, 119, 114, 105, 116, 105, 110, 103])) (eC (.str [108, 111, 110, 103, 32, 102, 111, 114, 107])))))))))))))
def m__law_shape_name : List D → T D := runB 7 b__law_shape_name
theorem ok__law_shape_name (X : TX K w mg base tl) : OkF P w K mg base tl 1 1 "_law_shape_name" ["shape"] m__law_shape_name := OkF.mk X.d__law_shape_name sc__law_shape_name rfl fun f cdv A outer s H E hr =>
    (qb_cons (qs_set (i := 1) sc__law_shape_name.nd (QO.e (qo_lc [("pair", 2)] (by rfl) sc__law_shape_name.nd (qi_seq (qe_var 0)) (show blkC N__law_shape_name (defScope s__law_shape_name) _ _ = true by decide +kernel) (fun _ _ _ _ _ => (qg_name sc__law_shape_name.nd)) (fun _ _ _ _ _ => qts_nil) (fun _ _ _ _ _ => (qe_ix (u65 hr) (QE.p (qe_var 2)) (QE.p qe_int))))))
    (qb_cons (qs_par (i := 3) (j := 4) (by rfl) sc__law_shape_name.nd (qa_cons (QO.e (qo_lc [("at", 5)] (by rfl) sc__law_shape_name.nd (qi_range1 (by rfl) X.n_range (qap_cons (QE.p (qe_len (by rfl) X.n_len (QE.p (qe_var 1)))) qap_nil)) (show blkC N__law_shape_name (defScope s__law_shape_name) _ _ = true by decide +kernel) (fun _ _ _ _ _ => (qg_name sc__law_shape_name.nd)) (fun _ _ _ _ _ => (qts_one (qt_cm (cm_eq hr.units) (QE.p (qe_ix (u65 hr) (QE.p (qe_var 1)) (QE.p (qe_var 5)))) (QE.p (qe_str [111, 118, 101, 114]))))) (fun _ _ _ _ _ => (qe_var 5)))) (qa_cons (QO.e (qo_lc [("at", 5)] (by rfl) sc__law_shape_name.nd (qi_range1 (by rfl) X.n_range (qap_cons (QE.p (qe_len (by rfl) X.n_len (QE.p (qe_var 1)))) qap_nil)) (show blkC N__law_shape_name (defScope s__law_shape_name) _ _ = true by decide +kernel) (fun _ _ _ _ _ => (qg_name sc__law_shape_name.nd)) (fun _ _ _ _ _ => (qts_one (qt_cm (cm_eq hr.units) (QE.p (qe_ix (u65 hr) (QE.p (qe_var 1)) (QE.p (qe_var 5)))) (QE.p (qe_str [97, 103, 97, 105, 110]))))) (fun _ _ _ _ _ => (qe_var 5)))) qa_nil)))
    (qb_cons (qs_setLc [("at", 5)] (by rfl) sc__law_shape_name.nd (qi_seq (qe_var 4)) (show blkC N__law_shape_name (defScope s__law_shape_name) _ _ = true by decide +kernel) (fun _ _ _ _ _ => (qg_name sc__law_shape_name.nd)) (fun _ _ _ _ _ => qts_nil) (fun _ _ _ _ _ => (qe_ix (u65 hr) (QE.p (qe_var 1)) (QE.p (qe_sub (QE.p (qe_var 5)) (QE.p qe_int))))) (sw_true rfl rfl rfl (by decide +kernel)))
    (qb_frz 6 (qb_cons (qs_if (qt_cm (cm_eq hr.units) (QE.p (qe_var 4)) (QE.p (QO.e (qo_lst qa_nil)))) (qb_one (qs_ret (qe_if (qt_cm (cm_eq hr.units) (QE.p (qe_var 3)) (QE.p (QO.e (qo_lst qa_nil)))) (qe_str [116, 111, 108, 100, 32, 97, 104, 101, 97, 100]) (qe_str [99, 105, 114, 99, 108, 101, 32, 111, 102, 32, 119, 114, 105, 116, 101, 115])))) qb_nil)
    (qb_cons (qs_if (QW.t (qw_and (qt_cm (cm_eq hr.units) (QE.p (qe_len (by rfl) X.n_len (QE.p (qe_var 4)))) (QE.p qe_int)) (qw_and1 (qt_cm (cm_eq hr.units) (QE.p (qe_var 3)) (QE.p (QO.e (qo_lst qa_nil))))))) (qb_one (qs_ret (qe_if (qt_cm (cm_eq hr.units) (QE.p (qe_len (by rfl) X.n_len (QE.p (qe_var 1)))) (QE.p qe_int)) (qe_ix (u65 hr) (QE.p (QO.e (qo_disp (qpr_cons (qe_str [115, 101, 115, 115, 105, 111, 110]) (qe_str [117, 110, 114, 101, 97, 100, 32, 115, 101, 115, 115, 105, 111, 110]) (qpr_cons (qe_str [114, 101, 97, 100]) (qe_str [116, 111, 114, 110, 32, 114, 101, 97, 100, 105, 110, 103]) (qpr_cons (qe_str [116, 105, 109, 101]) (qe_str [108, 97, 116, 101, 32, 114, 101, 97, 100, 105, 110, 103]) qpr_nil)))))) (QE.p (qe_ix (u65 hr) (QE.p (qe_var 6)) (QE.p qe_int)))) (qe_str [109, 105, 115, 115, 101, 100, 32, 99, 97, 117, 115, 101])))) qb_nil)
    (qb_cons (qs_if (QW.t (qw_and (qt_cm (cm_eq hr.units) (QE.p (qe_len (by rfl) X.n_len (QE.p (qe_var 4)))) (QE.p qe_int)) (qw_and1 (qt_cm (cm_eq hr.units) (QE.p (qe_var 6)) (QE.p (QO.e (qo_lst (qa_cons (qe_str [111, 118, 101, 114]) qa_nil)))))))) (qb_one (qs_ret (qe_if (QW.t (qw_and (qt_cm (cm_eq hr.units) (QE.p (qe_len (by rfl) X.n_len (QE.p (qe_var 1)))) (QE.p qe_int)) (qw_and1 (qt_cm (cm_eq hr.units) (QE.p (qe_ix (u65 hr) (QE.p (qe_ix (u65 hr) (QE.p (qe_var 0)) (QE.p qe_int))) (QE.p qe_int))) (QE.p (qe_ix (u65 hr) (QE.p (qe_ix (u65 hr) (QE.p (qe_var 0)) (QE.p qe_int))) (QE.p qe_int))))))) (qe_str [108, 111, 115, 116, 32, 111, 118, 101, 114, 119, 114, 105, 116, 105, 110, 103]) (qe_str [115, 108, 111, 119, 32, 111, 118, 101, 114, 119, 114, 105, 116, 105, 110, 103])))) qb_nil)
    (qb_cons (qs_if (qt_cm (cm_eq hr.units) (QE.p (qe_len (by rfl) X.n_len (QE.p (qe_var 4)))) (QE.p qe_int)) (qb_one (qs_ret (qe_str [108, 97, 116, 101, 32, 99, 97, 117, 115, 101]))) qb_nil)
    (qb_cons (qs_if (qt_cm (cm_in (u65 hr)) (QE.p (qe_str [97, 103, 97, 105, 110])) (QE.p (qe_var 6))) (qb_one (qs_ret (qe_if (qt_cm (cm_eq hr.units) (QE.p (qe_len (by rfl) X.n_len (QE.p (qe_var 1)))) (QE.p qe_int)) (qe_str [115, 107, 101, 119, 101, 100, 32, 119, 114, 105, 116, 105, 110, 103]) (qe_str [115, 107, 101, 119, 101, 100, 32, 99, 105, 114, 99, 108, 101])))) qb_nil)
    (qb_one (qs_ret (qe_if (qt_cm (cm_in (u65 hr)) (QE.p (qe_str [111, 118, 101, 114])) (QE.p (qe_var 6))) (qe_str [102, 111, 114, 107, 101, 100, 32, 111, 118, 101, 114, 119, 114, 105, 116, 105, 110, 103]) (qe_str [108, 111, 110, 103, 32, 102, 111, 114, 107])))))))))))))
def b__law_error (m : T D) : MM.Env → T Fl :=
  (sSeq (sTry subs (sThk m) (("InvalidPaper", (sRet (eC (.str [112, 97, 112, 101, 114])))) :: (("InvalidName", (sRet (eC (.str [110, 97, 109, 101])))) :: (("InvalidCondition", (sRet (eC (.str [99, 111, 110, 100, 105, 116, 105, 111, 110])))) :: (("OrderError", (sRet (eC (.str [111, 116, 104, 101, 114])))) :: [])))))
    (sRet (eC (.str []))))
theorem ok__law_error (X : TX K w mg base tl) : OkTh K mg tl "_law_error" "call" s__law_error N__law_error (runT N__law_error.length b__law_error) := ⟨X.d__law_error, sc__law_error, fun X' g cdg q hK hm => by
    subst hK
    subst hm
    exact gives_of (by decide) fun f s H C m A =>
    (qb_cons (qs_try X.sub takes0 (am_cons X.c_InvalidPaper.at_ (am_cons X.c_InvalidName.at_ (am_cons X.c_InvalidCondition.at_ (am_cons X.c_OrderError.at_ am_nil)))) (fun W pn xe tk => (qb_one (A.st W pn xe tk _ _ _))) (QHs.cons (by rfl) (by decide) (fun a pn => (qb_one (qs_ret (qe_str [112, 97, 112, 101, 114])))) (QHs.cons (by rfl) (by decide) (fun a pn => (qb_one (qs_ret (qe_str [110, 97, 109, 101])))) (QHs.cons (by rfl) (by decide) (fun a pn => (qb_one (qs_ret (qe_str [99, 111, 110, 100, 105, 116, 105, 111, 110])))) (QHs.cons (by rfl) (by decide) (fun a pn => (qb_one (qs_ret (qe_str [111, 116, 104, 101, 114])))) QHs.nil)))))
    (qb_one (qs_ret (qe_str []))))⟩
def b__law_rows : MM.Env → T Fl :=
  (sSeq (sPar 1 2 (aCons (eLst aNil) (aCons (eLst (aCons (eTup aNil) aNil)) aNil)))
    (sSeq (sFor (iArg rng2 (aCons (eC (.int 1)) (aCons (e2 addD (eVar 0) (eC (.int 1))) aNil))) (sName 3) (sSeq (sSet 4 (eLst aNil))
    (sSeq (sFor (iSq (eVar 2)) (sName 5) (sSet 4 (e2 addD (eVar 4) (eComp (iSq (eTup (aCons (eC (.str [115, 101, 115, 115, 105, 111, 110])) (aCons (eC (.str [116, 105, 109, 101])) (aCons (eC (.str [114, 101, 97, 100])) (aCons (eC (.str [111, 118, 101, 114])) (aCons (eC (.str [97, 103, 97, 105, 110])) aNil))))))) [6] (sName 6) tYesB (e2 addD (eVar 5) (eTup (aCons (eVar 6) aNil)))))))
    (sSeq (sSet 2 (eVar 4))
    (sSet 1 (e2 addD (eVar 1) (eIf (MM.tB (e2 gtI (eVar 3) (eC (.int 1)))) (eVar 2) (eLst aNil))))))))
    (sRet (eVar 1))))
def m__law_rows : List D → T D := runB 7 b__law_rows
theorem ok__law_rows (X : TX K w mg base tl) : OkF P w K mg base tl 1 1 "_law_rows" ["most"] m__law_rows := OkF.mk X.d__law_rows sc__law_rows rfl fun f cdv A outer s H E hr =>
    (qb_cons (qs_par (i := 1) (j := 2) (by rfl) sc__law_rows.nd (qa_cons (QO.e (qo_lst qa_nil)) (qa_cons (QO.e (qo_lst (qa_cons (qe_tup qa_nil) qa_nil))) qa_nil)))
    (qb_cons (qs_for (passes_of rfl) (by rfl) (qi_range2 (by rfl) X.n_range (qap_cons (QE.p qe_int) (qap_cons (QE.p (qe_add (QE.p (qe_var 0)) (QE.p qe_int))) qap_nil))) (qg_name sc__law_rows.nd) (qb_cons (qs_set (i := 4) sc__law_rows.nd (QO.e (qo_lst qa_nil)))
    (qb_cons (qs_for (passes_of rfl) (by rfl) (qi_seq (qe_var 2)) (qg_name sc__law_rows.nd) (qb_one (qs_set (i := 4) sc__law_rows.nd (qe_add (QE.p (qe_var 4)) (QE.p (QO.e (qo_lc [("kind", 6)] (by rfl) sc__law_rows.nd (qi_seq (qe_tup (qa_cons (qe_str [115, 101, 115, 115, 105, 111, 110]) (qa_cons (qe_str [116, 105, 109, 101]) (qa_cons (qe_str [114, 101, 97, 100]) (qa_cons (qe_str [111, 118, 101, 114]) (qa_cons (qe_str [97, 103, 97, 105, 110]) qa_nil))))))) (show blkC N__law_rows (defScope s__law_rows) _ _ = true by decide +kernel) (fun _ _ _ _ _ => (qg_name sc__law_rows.nd)) (fun _ _ _ _ _ => qts_nil) (fun _ _ _ _ _ => (qe_add (QE.p (qe_var 5)) (QE.p (qe_tup (qa_cons (qe_var 6) qa_nil))))))))))))
    (qb_cons (qs_set (i := 2) sc__law_rows.nd (qe_var 4))
    (qb_one (qs_set (i := 1) sc__law_rows.nd (qe_add (QE.p (qe_var 1)) (QE.p (qe_if (qt_cm cm_gt (QE.p (qe_var 3)) (QE.p qe_int)) (qe_var 2) (QO.e (qo_lst qa_nil)))))))))))
    (qb_one (qs_ret (qe_var 1)))))
def b__law_keyed : MM.Env → T Fl :=
  (sRet (eCall tupleD (aCons (eComp (iSq (eVar 1)) [3] (sName 3) tYesB (eTup (aCons (eVar 3) (aCons (eIf (MM.tB (e2 inD (eVar 3) (eTup (aCons (eC (.str [115, 101, 115, 115, 105, 111, 110])) (aCons (eC (.str [116, 105, 109, 101])) aNil))))) (eC (.str [])) (eFn 2 m_some (aCons (eVar 0) (aCons (eVar 2) aNil)))) aNil)))) aNil)))
def m__law_keyed : List D → T D := runB 4 b__law_keyed
theorem ok__law_keyed (X : TX K w mg base tl) : OkF P w K mg base tl 3 3 "_law_keyed" ["cup", "kinds", "keys"] m__law_keyed := OkF.mk X.d__law_keyed sc__law_keyed rfl fun f cdv A outer s H E hr =>
    (qb_one (qs_ret (qe_tuple (by rfl) X.n_tuple (QE.p (QO.e (qo_lc [("kind", 3)] (by rfl) sc__law_keyed.nd (qi_seq (qe_var 1)) (show blkC N__law_keyed (defScope s__law_keyed) _ _ = true by decide +kernel) (fun _ _ _ _ _ => (qg_name sc__law_keyed.nd)) (fun _ _ _ _ _ => qts_nil) (fun _ _ _ _ _ => (qe_tup (qa_cons (qe_var 3) (qa_cons (qe_if (qt_cm (cm_in (u65 hr)) (QE.p (qe_var 3)) (QE.p (qe_tup (qa_cons (qe_str [115, 101, 115, 115, 105, 111, 110]) (qa_cons (qe_str [116, 105, 109, 101]) qa_nil))))) (qe_str []) (qe_callF ((ok__law_some X).up (by omega)) hr takes0 (qa_cons (qe_var 0) (qa_cons (qe_var 2) qa_nil)))) qa_nil))))))))))
def b__law_told : MM.Env → T Fl :=
  (sSeq (sAsg (sTup [1, 2]) (eTup (aCons (eFn 1 m__law_shape_name (aCons (eVar 0) aNil)) (aCons (eCall tupleD (aCons (eComp (iSq (eVar 0)) [3] (sName 3) tYesB (e2 ixD (eVar 3) (eC (.int 0)))) aNil)) aNil))))
    (sSeq (sIf (MM.tOr (MM.tB (e2 notBD (eFn 1 m_is_shape (aCons (eVar 0) aNil)) (eC (.bl true)))) (MM.tNot (MM.tB (eFn 2 (r_like 8) (aCons (eFn 1 m_name_of (aCons (eVar 0) aNil)) (aCons (eVar 1) aNil)))))) (sRet (eC (.bl false))) sNx)
    (sSeq (sOwn 4 (eComp (iSq (eFn 0 m__law_conditions aNil)) [5] (sName 5) (MM.tB (eFn 2 m__law_forbids (aCons (eVar 5) (aCons (eVar 2) aNil)))) (eVar 5)))
    (sFrz 4 (sSeq (sOwn 6 (eComp (iSq (eFn 0 m__law_conditions aNil)) [5] (sName 5) (MM.tAnd (MM.tB (eFn 2 m__law_forbids (aCons (eVar 5) (aCons (eVar 2) aNil)))) (MM.tB (e2 inD (eC (.str [115, 116, 114, 105, 99, 116])) (eVar 5)))) (eVar 5)))
    (sFrz 6 (sSeq (sIf (MM.tOr (MM.tNot (MM.tB (eFn 2 (r_like 8) (aCons (eFn 1 m_forbidding (aCons (eVar 2) aNil)) (aCons (eCall tupleD (aCons (eVar 4) aNil)) aNil))))) (MM.tNot (MM.tB (eFn 2 (r_like 8) (aCons (eFn 1 m_against (aCons (eVar 1) aNil)) (aCons (eCall tupleD (aCons (eVar 6) aNil)) aNil)))))) (sRet (eC (.bl false))) sNx)
    (sRet (eOr (eAnd (e2 inD (eC (.str [116, 105, 109, 101])) (eVar 2)) (e2 eqD (eVar 4) (eVar 6))) (eAnd (e2 notInD (eC (.str [116, 105, 109, 101])) (eVar 2)) (e2 eqD (eCall lenD (aCons (eVar 4) aNil)) (e2 mulD (eC (.int 2)) (eCall lenD (aCons (eVar 6) aNil))))))))))))))
def m__law_told : List D → T D := runB 7 b__law_told
theorem ok__law_told (X : TX K w mg base tl) : OkF P w K mg base tl 10 1 "_law_told" ["shape"] m__law_told := OkF.mk X.d__law_told sc__law_told rfl fun f cdv A outer s H E hr =>
    (qb_cons (qs_asg (qe_tup (qa_cons (qe_callF ((ok__law_shape_name X).up (by omega)) hr (takes_of rfl rfl rfl rfl) (qa_cons (qe_var 0) qa_nil)) (qa_cons (qe_tuple (by rfl) X.n_tuple (QE.p (QO.e (qo_lc [("pair", 3)] (by rfl) sc__law_told.nd (qi_seq (qe_var 0)) (show blkC N__law_told (defScope s__law_told) _ _ = true by decide +kernel) (fun _ _ _ _ _ => (qg_name sc__law_told.nd)) (fun _ _ _ _ _ => qts_nil) (fun _ _ _ _ _ => (qe_ix (u65 hr) (QE.p (qe_var 3)) (QE.p qe_int))))))) qa_nil))) (qg_tup [1, 2] (by rfl) (pgs_cons (pg_name (i := 1) sc__law_told.nd rfl (by first | exact Or.inl rfl | exact Or.inr rfl)) (pgs_cons (pg_name (i := 2) sc__law_told.nd rfl (by first | exact Or.inl rfl | exact Or.inr rfl)) pgs_nil))))
    (qb_cons (qs_if (QW.t (qw_or (qt_cm cm_notB (QE.p (qe_callF ((ok_is_shape X).up (by omega)) hr (takes_of rfl rfl rfl rfl) (qa_cons (qe_var 0) qa_nil))) (QE.p qe_bl)) (qw_or1 (qt_not (qt_val (QE.p (qe_callF ((ok__law_like X).up (by omega)) hr (takes_of rfl rfl rfl rfl) (qa_cons (qe_callF ((ok_name_of X).up (by omega)) hr (takes_of rfl rfl rfl rfl) (qa_cons (qe_var 0) qa_nil)) (qa_cons (qe_var 1) qa_nil))))))))) (qb_one (qs_ret qe_bl)) qb_nil)
    (qb_cons (qs_setLc [("word", 5)] (by rfl) sc__law_told.nd (qi_seq (qe_callF0 ((ok__law_conditions X).up (by omega)) hr (takes_of rfl rfl rfl rfl))) (show blkC N__law_told (defScope s__law_told) _ _ = true by decide +kernel) (fun _ _ _ _ _ => (qg_name sc__law_told.nd)) (fun _ _ _ _ _ => (qts_one (qt_val (QE.p (qe_callF ((ok__law_forbids X).up (by omega)) hr takes0 (qa_cons (qe_var 5) (qa_cons (qe_var 2) qa_nil))))))) (fun _ _ _ _ _ => (qe_var 5)) (sw_true rfl rfl rfl (by decide +kernel)))
    (qb_frz 4 (qb_cons (qs_setLc [("word", 5)] (by rfl) sc__law_told.nd (qi_seq (qe_callF0 ((ok__law_conditions X).up (by omega)) hr (takes_of rfl rfl rfl rfl))) (show blkC N__law_told (defScope s__law_told) _ _ = true by decide +kernel) (fun _ _ _ _ _ => (qg_name sc__law_told.nd)) (fun _ _ _ _ _ => (qts_one (QW.t (qw_and (qt_val (QE.p (qe_callF ((ok__law_forbids X).up (by omega)) hr takes0 (qa_cons (qe_var 5) (qa_cons (qe_var 2) qa_nil))))) (qw_and1 (qt_cm (cm_in (u65 hr)) (QE.p (qe_str [115, 116, 114, 105, 99, 116])) (QE.p (qe_var 5)))))))) (fun _ _ _ _ _ => (qe_var 5)) (sw_true rfl rfl rfl (by decide +kernel)))
    (qb_frz 6 (qb_cons (qs_if (QW.t (qw_or (qt_not (qt_val (QE.p (qe_callF ((ok__law_like X).up (by omega)) hr (takes_of rfl rfl rfl rfl) (qa_cons (qe_callF ((ok_forbidding X).up (by omega)) hr (takes_of rfl rfl rfl rfl) (qa_cons (qe_var 2) qa_nil)) (qa_cons (qe_tuple (by rfl) X.n_tuple (QE.p (qe_var 4))) qa_nil)))))) (qw_or1 (qt_not (qt_val (QE.p (qe_callF ((ok__law_like X).up (by omega)) hr (takes_of rfl rfl rfl rfl) (qa_cons (qe_callF ((ok_against X).up (by omega)) hr (takes_of rfl rfl rfl rfl) (qa_cons (qe_var 1) qa_nil)) (qa_cons (qe_tuple (by rfl) X.n_tuple (QE.p (qe_var 6))) qa_nil))))))))) (qb_one (qs_ret qe_bl)) qb_nil)
    (qb_one (qs_ret (qe_or (QE.p (qe_and (QE.p (qe_cm (cm_in (u65 hr)) (QE.p (qe_str [116, 105, 109, 101])) (QE.p (qe_var 2)))) (qe_one (qe_cm (cm_eq hr.units) (QE.p (qe_var 4)) (QE.p (qe_var 6)))))) (qe_one (qe_and (QE.p (qe_cm (cm_notIn (u65 hr)) (QE.p (qe_str [116, 105, 109, 101])) (QE.p (qe_var 2)))) (qe_one (qe_cm (cm_eq hr.units) (QE.p (qe_len (by rfl) X.n_len (QE.p (qe_var 4)))) (QE.p (qe_mul (QE.p qe_int) (QE.p (qe_len (by rfl) X.n_len (QE.p (qe_var 6))))))))))))))))))))
def b__law_all_names : MM.Env → T Fl :=
  (sSeq (sSet 0 (eLst (aCons (eC (.str [116, 111, 108, 100, 32, 97, 104, 101, 97, 100])) (aCons (eC (.str [99, 105, 114, 99, 108, 101, 32, 111, 102, 32, 119, 114, 105, 116, 101, 115])) (aCons (eC (.str [117, 110, 114, 101, 97, 100, 32, 115, 101, 115, 115, 105, 111, 110])) (aCons (eC (.str [116, 111, 114, 110, 32, 114, 101, 97, 100, 105, 110, 103])) (aCons (eC (.str [108, 97, 116, 101, 32, 114, 101, 97, 100, 105, 110, 103])) (aCons (eC (.str [109, 105, 115, 115, 101, 100, 32, 99, 97, 117, 115, 101])) (aCons (eC (.str [108, 111, 115, 116, 32, 111, 118, 101, 114, 119, 114, 105, 116, 105, 110, 103])) aNil)))))))))
    (sRet (e2 addD (eVar 0) (eLst (aCons (eC (.str [115, 108, 111, 119, 32, 111, 118, 101, 114, 119, 114, 105, 116, 105, 110, 103])) (aCons (eC (.str [108, 97, 116, 101, 32, 99, 97, 117, 115, 101])) (aCons (eC (.str [108, 111, 110, 103, 32, 102, 111, 114, 107])) (aCons (eC (.str [102, 111, 114, 107, 101, 100, 32, 111, 118, 101, 114, 119, 114, 105, 116, 105, 110, 103])) (aCons (eC (.str [115, 107, 101, 119, 101, 100, 32, 119, 114, 105, 116, 105, 110, 103])) (aCons (eC (.str [115, 107, 101, 119, 101, 100, 32, 99, 105, 114, 99, 108, 101])) aNil))))))))))
def m__law_all_names : List D → T D := runB 1 b__law_all_names
theorem ok__law_all_names (X : TX K w mg base tl) : OkF P w K mg base tl 1 0 "_law_all_names" [] m__law_all_names := OkF.mk X.d__law_all_names sc__law_all_names rfl fun f cdv A outer s H E hr =>
    (qb_cons (qs_set (i := 0) sc__law_all_names.nd (QO.e (qo_lst (qa_cons (qe_str [116, 111, 108, 100, 32, 97, 104, 101, 97, 100]) (qa_cons (qe_str [99, 105, 114, 99, 108, 101, 32, 111, 102, 32, 119, 114, 105, 116, 101, 115]) (qa_cons (qe_str [117, 110, 114, 101, 97, 100, 32, 115, 101, 115, 115, 105, 111, 110]) (qa_cons (qe_str [116, 111, 114, 110, 32, 114, 101, 97, 100, 105, 110, 103]) (qa_cons (qe_str [108, 97, 116, 101, 32, 114, 101, 97, 100, 105, 110, 103]) (qa_cons (qe_str [109, 105, 115, 115, 101, 100, 32, 99, 97, 117, 115, 101]) (qa_cons (qe_str [108, 111, 115, 116, 32, 111, 118, 101, 114, 119, 114, 105, 116, 105, 110, 103]) qa_nil))))))))))
    (qb_one (qs_ret (qe_add (QE.p (qe_var 0)) (QE.p (QO.e (qo_lst (qa_cons (qe_str [115, 108, 111, 119, 32, 111, 118, 101, 114, 119, 114, 105, 116, 105, 110, 103]) (qa_cons (qe_str [108, 97, 116, 101, 32, 99, 97, 117, 115, 101]) (qa_cons (qe_str [108, 111, 110, 103, 32, 102, 111, 114, 107]) (qa_cons (qe_str [102, 111, 114, 107, 101, 100, 32, 111, 118, 101, 114, 119, 114, 105, 116, 105, 110, 103]) (qa_cons (qe_str [115, 107, 101, 119, 101, 100, 32, 119, 114, 105, 116, 105, 110, 103]) (qa_cons (qe_str [115, 107, 101, 119, 101, 100, 32, 99, 105, 114, 99, 108, 101]) qa_nil)))))))))))))
def b__law_between : MM.Env → T Fl :=
  (sSeq (sOwn 3 eDic0)
    (sSeq (sFor (iSq (eVar 2)) (sName 4) (sIf (MM.tAnd (MM.tB (eFn 2 m__law_forbids (aCons (eVar 1) (aCons (eVar 4) aNil)))) (MM.tNot (MM.tB (eFn 2 m__law_forbids (aCons (eVar 0) (aCons (eVar 4) aNil)))))) (sFor (iSq (eIf (MM.tB (e2 eqD (eCall lenD (aCons (eVar 4) aNil)) (eC (.int 2)))) (eTup (aCons (eC (.str [120, 120])) (aCons (eC (.str [120, 121])) aNil))) (eTup (aCons (eC (.str [120, 120, 120, 120])) aNil)))) (sName 5) (sSeq (sSet 6 (eCall tupleD (aCons (eComp (iArg zipD2 (aCons (eVar 4) (aCons (eVar 5) aNil))) [7, 8] (sTup [7, 8]) tYesB (eTup (aCons (eVar 7) (aCons (eIf (MM.tB (e2 inD (eVar 7) (eTup (aCons (eC (.str [115, 101, 115, 115, 105, 111, 110])) (aCons (eC (.str [116, 105, 109, 101])) aNil))))) (eC (.str [])) (eVar 8)) aNil)))) aNil)))
    (sPut 3 (eFn 1 m__law_shape_name (aCons (eVar 6) aNil)) (eC (.bl true))))) sNx))
    (sRet (eCall tupleD (aCons (eComp (iSq (eFn 0 m__law_all_names aNil)) [9] (sName 9) (MM.tB (e2 inD (eVar 9) (pVar 3))) (eVar 9)) aNil)))))
def m__law_between : List D → T D := runB 10 b__law_between
theorem ok__law_between (X : TX K w mg base tl) : OkF P w K mg base tl 2 3 "_law_between" ["one", "other", "rows"] m__law_between := OkF.mk X.d__law_between sc__law_between rfl fun f cdv A outer s H E hr =>
    (qb_cons (qs_own (i := 3) sc__law_between.nd qo_dic0)
    (qb_cons (qs_for (passes_of rfl) (by rfl) (qi_seq (qe_var 2)) (qg_name sc__law_between.nd) (qb_one (qs_if (QW.t (qw_and (qt_val (QE.p (qe_callF ((ok__law_forbids X).up (by omega)) hr (takes_of rfl rfl rfl rfl) (qa_cons (qe_var 1) (qa_cons (qe_var 4) qa_nil))))) (qw_and1 (qt_not (qt_val (QE.p (qe_callF ((ok__law_forbids X).up (by omega)) hr (takes_of rfl rfl rfl rfl) (qa_cons (qe_var 0) (qa_cons (qe_var 4) qa_nil))))))))) (qb_one (qs_for (passes_of rfl) (by rfl) (qi_seq (qe_if (qt_cm (cm_eq hr.units) (QE.p (qe_len (by rfl) X.n_len (QE.p (qe_var 4)))) (QE.p qe_int)) (qe_tup (qa_cons (qe_str [120, 120]) (qa_cons (qe_str [120, 121]) qa_nil))) (qe_tup (qa_cons (qe_str [120, 120, 120, 120]) qa_nil)))) (qg_name sc__law_between.nd) (qb_cons (qs_set (i := 6) sc__law_between.nd (qe_tuple (by rfl) X.n_tuple (QE.p (QO.e (qo_lc [("kind", 7), ("key", 8)] (by rfl) sc__law_between.nd (qi_z2 (by rfl) X.n_zip (qa_cons (qe_var 4) (qa_cons (qe_var 5) qa_nil))) (show blkC N__law_between (defScope s__law_between) _ _ = true by decide +kernel) (fun _ _ _ _ _ => (qg_tup [7, 8] (by rfl) (pgs_cons (pg_name (i := 7) sc__law_between.nd rfl (by first | exact Or.inl rfl | exact Or.inr rfl)) (pgs_cons (pg_name (i := 8) sc__law_between.nd rfl (by first | exact Or.inl rfl | exact Or.inr rfl)) pgs_nil)))) (fun _ _ _ _ _ => qts_nil) (fun _ _ _ _ _ => (qe_tup (qa_cons (qe_var 7) (qa_cons (qe_if (qt_cm (cm_in (u65 hr)) (QE.p (qe_var 7)) (QE.p (qe_tup (qa_cons (qe_str [115, 101, 115, 115, 105, 111, 110]) (qa_cons (qe_str [116, 105, 109, 101]) qa_nil))))) (qe_str []) (qe_var 8)) qa_nil)))))))))
    (qb_one (qs_put 3 (u65 hr) (QE.p (qe_callF ((ok__law_shape_name X).up (by omega)) hr (takes_of rfl rfl rfl rfl) (qa_cons (qe_var 6) qa_nil))) qe_bl))))) qb_nil)))
    (qb_one (qs_ret (qe_tuple (by rfl) X.n_tuple (QE.p (QO.e (qo_lc [("name", 9)] (by rfl) sc__law_between.nd (qi_seq (qe_callF0 ((ok__law_all_names X).up (by omega)) hr (takes_of rfl rfl rfl rfl))) (show blkC N__law_between (defScope s__law_between) _ _ = true by decide +kernel) (fun _ _ _ _ _ => (qg_name sc__law_between.nd)) (fun _ _ _ _ _ => (qts_one (qt_cm (cm_in (u65 hr)) (QE.p (qe_var 9)) (qp_var 3)))) (fun _ _ _ _ _ => (qe_var 9))))))))))
def b__law_odd_shapes : MM.Env → T Fl :=
  (sSeq (sSet 2 (eFn 2 rollM (aCons (eVar 0) (aCons (eCall lenD (aCons (eVar 1) aNil)) aNil))))
    (sSeq (sAsg (sTup [3, 4]) (e2 ixD (eVar 1) (eVar 2)))
    (sSeq (sOwn 5 (eLst (aCons (eC .non) (aCons (eTup aNil) (aCons (eCut (eVar 1) oNo (oSo (eC (.int 1)))) (aCons (eCall listD (aCons (eVar 1) aNil)) (aCons (eC (.int 5)) (aCons (eC (.str [111, 118, 101, 114])) (aCons (eTup (aCons (eVar 1) (aCons (eVar 1) aNil))) (aCons (e2 ixD (eVar 1) (eC (.int 0))) aNil))))))))))
    (sSeq (sFor (iSq (eLst (aCons (eC .non) (aCons (eTup aNil) (aCons (eTup (aCons (eVar 3) aNil)) (aCons (eTup (aCons (eVar 3) (aCons (eVar 4) (aCons (eVar 4) aNil)))) (aCons (eLst (aCons (eVar 3) (aCons (eVar 4) aNil))) (aCons (eTup (aCons (eC .non) (aCons (eVar 4) aNil))) (aCons (eTup (aCons (eC (.str [98, 97, 115, 101])) (aCons (eVar 4) aNil))) (aCons (eTup (aCons (eC (.str [])) (aCons (eVar 4) aNil))) (aCons (eTup (aCons (eVar 3) (aCons (eC .non) aNil))) (aCons (eTup (aCons (eVar 3) (aCons (eC (.str [65])) aNil))) (aCons (eTup (aCons (eVar 3) (aCons (eC (.str [49, 97])) aNil))) (aCons (eTup (aCons (eVar 3) (aCons (e2 mulD (eC (.str [97])) (eC (.int 13))) aNil))) aNil)))))))))))))) (sName 6) (sApp 5 (e2 addD (e2 addD (eCut (eVar 1) oNo (oSo (eVar 2))) (eTup (aCons (eVar 6) aNil))) (eCut (eVar 1) (oSo (e2 addD (eVar 2) (eC (.int 1)))) oNo))))
    (sSeq (sApp 5 (e2 addD (e2 addD (eCut (eVar 1) oNo (oSo (eVar 2))) (eTup (aCons (eTup (aCons (eVar 3) (aCons (eIf (MM.tB (e2 eqD (eVar 4) (eC (.str [])))) (eC (.str [120])) (eC (.str []))) aNil))) aNil))) (eCut (eVar 1) (oSo (e2 addD (eVar 2) (eC (.int 1)))) oNo)))
    (sRet (e2 addD (pVar 5) (eLst (aCons (e2 addD (e2 addD (eCut (eVar 1) oNo (oSo (eVar 2))) (eTup (aCons (eTup (aCons (eC (.str [115, 101, 115, 115, 105, 111, 110])) (aCons (eC (.str [120])) aNil))) aNil))) (eCut (eVar 1) (oSo (e2 addD (eVar 2) (eC (.int 1)))) oNo)) (aCons (e2 addD (e2 addD (eCut (eVar 1) oNo (oSo (eVar 2))) (eTup (aCons (eTup (aCons (eC (.str [116, 105, 109, 101])) (aCons (eC .non) aNil))) aNil))) (eCut (eVar 1) (oSo (e2 addD (eVar 2) (eC (.int 1)))) oNo)) aNil))))))))))
def m__law_odd_shapes : List D → T D := runB 7 b__law_odd_shapes
theorem ok__law_odd_shapes (X : TX K w mg base tl) : OkF P w K mg base tl 2 2 "_law_odd_shapes" ["cup", "shape"] m__law_odd_shapes := OkF.mk X.d__law_odd_shapes sc__law_odd_shapes rfl fun f cdv A outer s H E hr =>
    (qb_cons (qs_set (i := 2) sc__law_odd_shapes.nd (qe_callF ((ok__law_roll X).up (by omega)) hr (takes_of rfl rfl rfl rfl) (qa_cons (qe_var 0) (qa_cons (qe_len (by rfl) X.n_len (QE.p (qe_var 1))) qa_nil))))
    (qb_cons (qs_asg (qe_ix (u65 hr) (QE.p (qe_var 1)) (QE.p (qe_var 2))) (qg_tup [3, 4] (by rfl) (pgs_cons (pg_name (i := 3) sc__law_odd_shapes.nd rfl (by first | exact Or.inl rfl | exact Or.inr rfl)) (pgs_cons (pg_name (i := 4) sc__law_odd_shapes.nd rfl (by first | exact Or.inl rfl | exact Or.inr rfl)) pgs_nil))))
    (qb_cons (qs_own (i := 5) sc__law_odd_shapes.nd (qo_lst (qa_cons qe_non (qa_cons (qe_tup qa_nil) (qa_cons (qe_cut (QE.p (qe_var 1)) qo_no (qo_so (QE.p qe_int))) (qa_cons (QO.e (qo_list (by rfl) X.n_list (QE.p (qe_var 1)))) (qa_cons qe_int (qa_cons (qe_str [111, 118, 101, 114]) (qa_cons (qe_tup (qa_cons (qe_var 1) (qa_cons (qe_var 1) qa_nil))) (qa_cons (qe_ix (u65 hr) (QE.p (qe_var 1)) (QE.p qe_int)) qa_nil))))))))))
    (qb_cons (qs_for (passes_of rfl) (by rfl) (qi_seq (QO.e (qo_lst (qa_cons qe_non (qa_cons (qe_tup qa_nil) (qa_cons (qe_tup (qa_cons (qe_var 3) qa_nil)) (qa_cons (qe_tup (qa_cons (qe_var 3) (qa_cons (qe_var 4) (qa_cons (qe_var 4) qa_nil)))) (qa_cons (QO.e (qo_lst (qa_cons (qe_var 3) (qa_cons (qe_var 4) qa_nil)))) (qa_cons (qe_tup (qa_cons qe_non (qa_cons (qe_var 4) qa_nil))) (qa_cons (qe_tup (qa_cons (qe_str [98, 97, 115, 101]) (qa_cons (qe_var 4) qa_nil))) (qa_cons (qe_tup (qa_cons (qe_str []) (qa_cons (qe_var 4) qa_nil))) (qa_cons (qe_tup (qa_cons (qe_var 3) (qa_cons qe_non qa_nil))) (qa_cons (qe_tup (qa_cons (qe_var 3) (qa_cons (qe_str [65]) qa_nil))) (qa_cons (qe_tup (qa_cons (qe_var 3) (qa_cons (qe_str [49, 97]) qa_nil))) (qa_cons (qe_tup (qa_cons (qe_var 3) (qa_cons (qe_mul (QE.p (qe_str [97])) (QE.p qe_int)) qa_nil))) qa_nil))))))))))))))) (qg_name sc__law_odd_shapes.nd) (qb_one (qs_app 5 (ha := (qe_add (QE.p (qe_add (QE.p (qe_cut (QE.p (qe_var 1)) qo_no (qo_so (QE.p (qe_var 2))))) (QE.p (qe_tup (qa_cons (qe_var 6) qa_nil))))) (QE.p (qe_cut (QE.p (qe_var 1)) (qo_so (QE.p (qe_add (QE.p (qe_var 2)) (QE.p qe_int)))) qo_no)))))))
    (qb_cons (qs_app 5 (ha := (qe_add (QE.p (qe_add (QE.p (qe_cut (QE.p (qe_var 1)) qo_no (qo_so (QE.p (qe_var 2))))) (QE.p (qe_tup (qa_cons (qe_tup (qa_cons (qe_var 3) (qa_cons (qe_if (qt_cm (cm_eq hr.units) (QE.p (qe_var 4)) (QE.p (qe_str []))) (qe_str [120]) (qe_str [])) qa_nil))) qa_nil))))) (QE.p (qe_cut (QE.p (qe_var 1)) (qo_so (QE.p (qe_add (QE.p (qe_var 2)) (QE.p qe_int)))) qo_no)))))
    (qb_one (qs_ret (qe_add (qp_var 5) (QE.p (QO.e (qo_lst (qa_cons (qe_add (QE.p (qe_add (QE.p (qe_cut (QE.p (qe_var 1)) qo_no (qo_so (QE.p (qe_var 2))))) (QE.p (qe_tup (qa_cons (qe_tup (qa_cons (qe_str [115, 101, 115, 115, 105, 111, 110]) (qa_cons (qe_str [120]) qa_nil))) qa_nil))))) (QE.p (qe_cut (QE.p (qe_var 1)) (qo_so (QE.p (qe_add (QE.p (qe_var 2)) (QE.p qe_int)))) qo_no))) (qa_cons (qe_add (QE.p (qe_add (QE.p (qe_cut (QE.p (qe_var 1)) qo_no (qo_so (QE.p (qe_var 2))))) (QE.p (qe_tup (qa_cons (qe_tup (qa_cons (qe_str [116, 105, 109, 101]) (qa_cons qe_non qa_nil))) qa_nil))))) (QE.p (qe_cut (QE.p (qe_var 1)) (qo_so (QE.p (qe_add (QE.p (qe_var 2)) (QE.p qe_int)))) qo_no))) qa_nil)))))))))))))
def p_0 : MM.Env → T Fl :=
  (sPar 2 3 (aCons (eFn 2 m__law_names (aCons (eVar 1) (aCons (e2 addD (eC (.int 1)) (eFn 2 rollM (aCons (eVar 1) (aCons (eC (.int 3)) aNil)))) aNil))) (aCons (eFn 1 m__law_rows (aCons (eC (.int 4)) aNil)) aNil)))
def p_1 : MM.Env → T Fl :=
  (sIf (MM.tNot (MM.tB (eFn 2 (r_like 8) (aCons (eFn 0 m_ring_names aNil) (aCons (eCall tupleD (aCons (eFn 0 m__law_all_names aNil) aNil)) aNil))))) (sRet (eC (.bl false))) sNx)
def p_2 : MM.Env → T Fl :=
  (sFor (iArg rng1 (aCons (eC (.int 60)) aNil)) (sName 4) (sSeq (sSet 5 (eFn 2 m_some (aCons (eVar 1) (aCons (eVar 3) aNil))))
    (sSeq (sIf (MM.tB (e2 gtI (eVar 4) (eC (.int 40)))) (sSet 5 (eCall tupleD (aCons (eComp (iArg rng1 (aCons (e2 addD (eC (.int 2)) (eFn 2 rollM (aCons (eVar 1) (aCons (eFn 2 m_some (aCons (eVar 1) (aCons (eLst (aCons (eC (.int 3)) (aCons (eC (.int 10)) (aCons (eC (.int 40)) aNil)))) aNil))) aNil)))) aNil)) [6] (sName 6) tYesB (eFn 2 m_some (aCons (eVar 1) (aCons (eLst (aCons (eC (.str [115, 101, 115, 115, 105, 111, 110])) (aCons (eC (.str [116, 105, 109, 101])) (aCons (eC (.str [114, 101, 97, 100])) (aCons (eC (.str [111, 118, 101, 114])) (aCons (eC (.str [97, 103, 97, 105, 110])) (aCons (eC (.str [97, 103, 97, 105, 110])) aNil))))))) aNil)))) aNil))) sNx)
    (sIf (MM.tNot (MM.tB (eFn 1 m__law_told (aCons (eFn 3 m__law_keyed (aCons (eVar 1) (aCons (eVar 5) (aCons (eVar 2) aNil)))) aNil)))) (sRet (eC (.bl false))) sNx))))
def p_3 : MM.Env → T Fl :=
  (sFor (iSq (eFn 1 m__law_rows (aCons (eC (.int 2)) aNil))) (sName 5) (sFor (iSq (eTup (aCons (eC (.str [120, 120])) (aCons (eC (.str [120, 121])) aNil)))) (sName 7) (sIf (MM.tNot (MM.tB (eFn 1 m__law_told (aCons (eCall tupleD (aCons (eComp (iArg zipD2 (aCons (eVar 5) (aCons (eVar 7) aNil))) [8, 9] (sTup [8, 9]) tYesB (eTup (aCons (eVar 8) (aCons (eIf (MM.tB (e2 inD (eVar 8) (eTup (aCons (eC (.str [115, 101, 115, 115, 105, 111, 110])) (aCons (eC (.str [116, 105, 109, 101])) aNil))))) (eC (.str [])) (eVar 9)) aNil)))) aNil)) aNil)))) (sRet (eC (.bl false))) sNx)))
def p_4 : MM.Env → T Fl :=
  (sFor (iSq (eFn 2 m__law_odd_shapes (aCons (eVar 1) (aCons (eFn 3 m__law_keyed (aCons (eVar 1) (aCons (eFn 2 m_some (aCons (eVar 1) (aCons (eVar 3) aNil))) (aCons (eVar 2) aNil)))) aNil)))) (sName 10) (sIf (MM.tOr (MM.tB (e2 notBD (eFn 1 m_is_shape (aCons (eVar 10) aNil)) (eC (.bl false)))) (MM.tB (e2 neD (eLam (runT N__law_error.length b__law_error) (eFn 1 m_name_of (aCons (eVar 10) aNil))) (eC (.str [112, 97, 112, 101, 114]))))) (sRet (eC (.bl false))) sNx))
def p_5 : MM.Env → T Fl :=
  (sFor (iArg rng1 (aCons (eC (.int 6)) aNil)) (sName 4) (sSeq (sPar 11 12 (aCons (eFn 2 m_some (aCons (eVar 1) (aCons (eFn 0 m__law_conditions aNil) aNil))) (aCons (eFn 2 m_some (aCons (eVar 1) (aCons (eFn 0 m__law_conditions aNil) aNil))) aNil)))
    (sIf (MM.tNot (MM.tB (eFn 2 (r_like 8) (aCons (eFn 2 m_gap_names (aCons (eVar 11) (aCons (eVar 12) aNil))) (aCons (eFn 3 m__law_between (aCons (eVar 11) (aCons (eVar 12) (aCons (eVar 3) aNil)))) aNil))))) (sRet (eC (.bl false))) sNx)))
def p_6 : MM.Env → T Fl :=
  (sFor (iSq (eTup (aCons (eC .non) (aCons (eC (.str [])) (aCons (eC (.str [76, 111, 110, 103, 32, 102, 111, 114, 107])) (aCons (eC (.str [102, 111, 114, 107])) (aCons (eLst (aCons (eC (.str [108, 111, 110, 103, 32, 102, 111, 114, 107])) aNil)) (aCons (eC (.str [108, 111, 110, 103, 102, 111, 114, 107])) (aCons (eC (.bl true)) aNil))))))))) (sName 10) (sSeq (sIf (MM.tB (e2 neD (eLam (runT N__law_error.length b__law_error) (eFn 1 m_against (aCons (eVar 10) aNil))) (eC (.str [110, 97, 109, 101])))) (sRet (eC (.bl false))) sNx)
    (sSeq (sIf (MM.tB (e2 neD (eLam (runT N__law_error.length b__law_error) (eFn 2 m_gap_names (aCons (eC (.str [115, 101, 114, 105, 97, 108])) (aCons (eVar 10) aNil)))) (eC (.str [99, 111, 110, 100, 105, 116, 105, 111, 110])))) (sRet (eC (.bl false))) sNx)
    (sIf (MM.tB (e2 neD (eLam (runT N__law_error.length b__law_error) (eFn 2 m_gap_names (aCons (eVar 10) (aCons (eC .non) aNil)))) (eC (.str [99, 111, 110, 100, 105, 116, 105, 111, 110])))) (sRet (eC (.bl false))) sNx))))
def p_7 : MM.Env → T Fl :=
  (sSet 13 (e2 mulD (eTup (aCons (eTup (aCons (eC (.str [114, 101, 97, 100])) (aCons (eC (.str [120])) aNil))) (aCons (eTup (aCons (eC (.str [97, 103, 97, 105, 110])) (aCons (eC (.str [121])) aNil))) (aCons (eTup (aCons (eC (.str [115, 101, 115, 115, 105, 111, 110])) (aCons (eC (.str [])) aNil))) (aCons (eTup (aCons (eC (.str [97, 103, 97, 105, 110])) (aCons (eC (.str [120])) aNil))) aNil))))) (eC (.int 50))))
def p_8 : MM.Env → T Fl :=
  (sRet (eAnd (eFn 1 m__law_told (aCons (eVar 13) aNil)) (eAnd (eFn 1 m__law_told (aCons (e2 addD (eVar 13) (eTup (aCons (eTup (aCons (eC (.str [111, 118, 101, 114])) (aCons (eC (.str [122])) aNil))) aNil))) aNil)) (eFn 1 m__law_told (aCons (e2 addD (eVar 13) (eTup (aCons (eTup (aCons (eC (.str [97, 103, 97, 105, 110])) (aCons (e2 mulD (eC (.str [97])) (eC (.int 12))) aNil))) aNil))) aNil)))))
def b_law : MM.Env → T Fl :=
  (sSeq p_0
    (sSeq p_1
    (sSeq p_2
    (sSeq p_3
    (sSeq p_4
    (sSeq p_5
    (sSeq p_6
    (sSeq p_7
    p_8))))))))
theorem ok_law (X : TX K w mg base tl) (hpure : (b_law (lawEnv 14 1)).wp lawPost fun _ => False) {f : Addr} {fd : FuncData} (Fl : Fun K "law" "law" s_law f fd) {c Pt : Addr} (hcd : fd.code = .ref c) (TB : LamX.TabB base mg c Pt) (h1 : (Pt, ("law.<locals>.<lambda>" : PySem.Str)) ∈ tl) (h2 : ∀ p ∈ tl, p.1 = Pt → p.2 = "law.<locals>.<lambda>") : FnOk P w K mg base (L2.CX P w) 11 f fd ["script"] (spLaw K tl) := by
  obtain ⟨fc, fdc, gc, kc, bc, GC⟩ := ok__law_cup (P := P) (w := w) (base := base) X
  refine fun_okC Fl hcd sc_law (fun vs H Q E h => ?_) (fun A outer s H vs Q E hr h => ?_)
  · obtain ⟨a, ns, rfl, _⟩ := h
    rfl
  · obtain ⟨a, ns, rfl, hS, hl, ht, hQ⟩ := h
    refine law_body (X := cxOf (L2.CX P w) P w K mg base N_law "law" (defScope s_law) f (.ref c) A outer s H E) (tb := tl) (W := fun cls d _ H' => E cls d H') (h := b_law) (i := 1) (Ec := fun _ => E) (show 0 < N_law.length by decide) (show 1 < N_law.length by decide) (by decide)
      (ps_set (i := 1) sc_law.nd rfl (by first | exact .inl rfl | exact .inr rfl) (pe_callS (GC.mono (by decide)) hr (by rfl) gc kc bc (fun σ => passAt (takes_of rfl rfl rfl rfl) σ) (pa_cons (pv 0) pa_nil))) ?_ hS hl ht hQ hpure
    exact (qb_cons (qs_par (i := 2) (j := 3) (by rfl) sc_law.nd (qa_cons (qe_callF ((ok__law_names X).up (by omega)) hr (takes_of rfl rfl rfl rfl) (qa_cons (qe_var 1) (qa_cons (qe_add (QE.p qe_int) (QE.p (qe_callF ((ok__law_roll X).up (by omega)) hr (takes_of rfl rfl rfl rfl) (qa_cons (qe_var 1) (qa_cons qe_int qa_nil))))) qa_nil))) (qa_cons (qe_callF ((ok__law_rows X).up (by omega)) hr (takes_of rfl rfl rfl rfl) (qa_cons qe_int qa_nil)) qa_nil)))
    (qb_cons (qs_if (qt_not (qt_val (QE.p (qe_callF ((ok__law_like X).up (by omega)) hr (takes_of rfl rfl rfl rfl) (qa_cons (qe_callF0 ((ok_ring_names X).up (by omega)) hr (takes_of rfl rfl rfl rfl)) (qa_cons (qe_tuple (by rfl) X.n_tuple (QE.p (qe_callF0 ((ok__law_all_names X).up (by omega)) hr (takes_of rfl rfl rfl rfl)))) qa_nil)))))) (qb_one (qs_ret qe_bl)) qb_nil)
    (qb_cons (qs_for (passes_of rfl) (by rfl) (qi_range1 (by rfl) X.n_range (qap_cons (QE.p qe_int) qap_nil)) (qg_name sc_law.nd) (qb_cons (qs_set (i := 5) sc_law.nd (qe_callF ((ok__law_some X).up (by omega)) hr (takes_of rfl rfl rfl rfl) (qa_cons (qe_var 1) (qa_cons (qe_var 3) qa_nil))))
    (qb_cons (qs_if (qt_cm cm_gt (QE.p (qe_var 4)) (QE.p qe_int)) (qb_one (qs_set (i := 5) sc_law.nd (qe_tuple (by rfl) X.n_tuple (QE.p (QO.e (qo_lc [("at", 6)] (by rfl) sc_law.nd (qi_range1 (by rfl) X.n_range (qap_cons (QE.p (qe_add (QE.p qe_int) (QE.p (qe_callF ((ok__law_roll X).up (by omega)) hr (takes_of rfl rfl rfl rfl) (qa_cons (qe_var 1) (qa_cons (qe_callF ((ok__law_some X).up (by omega)) hr (takes_of rfl rfl rfl rfl) (qa_cons (qe_var 1) (qa_cons (QO.e (qo_lst (qa_cons qe_int (qa_cons qe_int (qa_cons qe_int qa_nil))))) qa_nil))) qa_nil)))))) qap_nil)) (show blkC N_law (defScope s_law) _ _ = true by decide +kernel) (fun _ _ _ _ _ => (qg_name sc_law.nd)) (fun _ _ _ _ _ => qts_nil) (fun _ _ _ _ _ => (qe_callF ((ok__law_some X).up (by omega)) hr takes0 (qa_cons (qe_var 1) (qa_cons (QO.e (qo_lst (qa_cons (qe_str [115, 101, 115, 115, 105, 111, 110]) (qa_cons (qe_str [116, 105, 109, 101]) (qa_cons (qe_str [114, 101, 97, 100]) (qa_cons (qe_str [111, 118, 101, 114]) (qa_cons (qe_str [97, 103, 97, 105, 110]) (qa_cons (qe_str [97, 103, 97, 105, 110]) qa_nil)))))))) qa_nil)))))))))) qb_nil)
    (qb_one (qs_if (qt_not (qt_val (QE.p (qe_callF ((ok__law_told X).up (by omega)) hr (takes_of rfl rfl rfl rfl) (qa_cons (qe_callF ((ok__law_keyed X).up (by omega)) hr (takes_of rfl rfl rfl rfl) (qa_cons (qe_var 1) (qa_cons (qe_var 5) (qa_cons (qe_var 2) qa_nil)))) qa_nil))))) (qb_one (qs_ret qe_bl)) qb_nil)))))
    (qb_cons (qs_for (passes_of rfl) (by rfl) (qi_seq (qe_callF ((ok__law_rows X).up (by omega)) hr (takes_of rfl rfl rfl rfl) (qa_cons qe_int qa_nil))) (qg_name sc_law.nd) (qb_one (qs_for (passes_of rfl) (by rfl) (qi_seq (qe_tup (qa_cons (qe_str [120, 120]) (qa_cons (qe_str [120, 121]) qa_nil)))) (qg_name sc_law.nd) (qb_one (qs_if (qt_not (qt_val (QE.p (qe_callF ((ok__law_told X).up (by omega)) hr (takes_of rfl rfl rfl rfl) (qa_cons (qe_tuple (by rfl) X.n_tuple (QE.p (QO.e (qo_lc [("kind", 8), ("key", 9)] (by rfl) sc_law.nd (qi_z2 (by rfl) X.n_zip (qa_cons (qe_var 5) (qa_cons (qe_var 7) qa_nil))) (show blkC N_law (defScope s_law) _ _ = true by decide +kernel) (fun _ _ _ _ _ => (qg_tup [8, 9] (by rfl) (pgs_cons (pg_name (i := 8) sc_law.nd rfl (by first | exact Or.inl rfl | exact Or.inr rfl)) (pgs_cons (pg_name (i := 9) sc_law.nd rfl (by first | exact Or.inl rfl | exact Or.inr rfl)) pgs_nil)))) (fun _ _ _ _ _ => qts_nil) (fun _ _ _ _ _ => (qe_tup (qa_cons (qe_var 8) (qa_cons (qe_if (qt_cm (cm_in (u65 hr)) (QE.p (qe_var 8)) (QE.p (qe_tup (qa_cons (qe_str [115, 101, 115, 115, 105, 111, 110]) (qa_cons (qe_str [116, 105, 109, 101]) qa_nil))))) (qe_str []) (qe_var 9)) qa_nil)))))))) qa_nil))))) (qb_one (qs_ret qe_bl)) qb_nil)))))
    (qb_cons (qs_for (passes_of rfl) (by rfl) (qi_seq (qe_callF ((ok__law_odd_shapes X).up (by omega)) hr (takes_of rfl rfl rfl rfl) (qa_cons (qe_var 1) (qa_cons (qe_callF ((ok__law_keyed X).up (by omega)) hr (takes_of rfl rfl rfl rfl) (qa_cons (qe_var 1) (qa_cons (qe_callF ((ok__law_some X).up (by omega)) hr (takes_of rfl rfl rfl rfl) (qa_cons (qe_var 1) (qa_cons (qe_var 3) qa_nil))) (qa_cons (qe_var 2) qa_nil)))) qa_nil)))) (qg_name sc_law.nd) (qb_one (qs_if (QW.t (qw_or (qt_cm cm_notB (QE.p (qe_callF ((ok_is_shape X).up (by omega)) hr (takes_of rfl rfl rfl rfl) (qa_cons (qe_var 10) qa_nil))) (QE.p qe_bl)) (qw_or1 (qt_cm (cm_ne hr.units) (QE.p (qe_lam (ok__law_error X) hr TB (by rfl) h1 h2 (fun A outer s H E f c' hr => (qe_callF ((ok_name_of X).up (by omega)) hr (takes_of rfl rfl rfl rfl) (qa_cons (qe_var 10) qa_nil))))) (QE.p (qe_str [112, 97, 112, 101, 114])))))) (qb_one (qs_ret qe_bl)) qb_nil)))
    (qb_cons (qs_for (passes_of rfl) (by rfl) (qi_range1 (by rfl) X.n_range (qap_cons (QE.p qe_int) qap_nil)) (qg_name sc_law.nd) (qb_cons (qs_par (i := 11) (j := 12) (by rfl) sc_law.nd (qa_cons (qe_callF ((ok__law_some X).up (by omega)) hr (takes_of rfl rfl rfl rfl) (qa_cons (qe_var 1) (qa_cons (qe_callF0 ((ok__law_conditions X).up (by omega)) hr (takes_of rfl rfl rfl rfl)) qa_nil))) (qa_cons (qe_callF ((ok__law_some X).up (by omega)) hr (takes_of rfl rfl rfl rfl) (qa_cons (qe_var 1) (qa_cons (qe_callF0 ((ok__law_conditions X).up (by omega)) hr (takes_of rfl rfl rfl rfl)) qa_nil))) qa_nil)))
    (qb_one (qs_if (qt_not (qt_val (QE.p (qe_callF ((ok__law_like X).up (by omega)) hr (takes_of rfl rfl rfl rfl) (qa_cons (qe_callF ((ok_gap_names X).up (by omega)) hr (takes_of rfl rfl rfl rfl) (qa_cons (qe_var 11) (qa_cons (qe_var 12) qa_nil))) (qa_cons (qe_callF ((ok__law_between X).up (by omega)) hr (takes_of rfl rfl rfl rfl) (qa_cons (qe_var 11) (qa_cons (qe_var 12) (qa_cons (qe_var 3) qa_nil)))) qa_nil)))))) (qb_one (qs_ret qe_bl)) qb_nil))))
    (qb_cons (qs_for (passes_of rfl) (by rfl) (qi_seq (qe_tup (qa_cons qe_non (qa_cons (qe_str []) (qa_cons (qe_str [76, 111, 110, 103, 32, 102, 111, 114, 107]) (qa_cons (qe_str [102, 111, 114, 107]) (qa_cons (QO.e (qo_lst (qa_cons (qe_str [108, 111, 110, 103, 32, 102, 111, 114, 107]) qa_nil))) (qa_cons (qe_str [108, 111, 110, 103, 102, 111, 114, 107]) (qa_cons qe_bl qa_nil))))))))) (qg_name sc_law.nd) (qb_cons (qs_if (qt_cm (cm_ne hr.units) (QE.p (qe_lam (ok__law_error X) hr TB (by rfl) h1 h2 (fun A outer s H E f c' hr => (qe_callF ((ok_against X).up (by omega)) hr (takes_of rfl rfl rfl rfl) (qa_cons (qe_var 10) qa_nil))))) (QE.p (qe_str [110, 97, 109, 101]))) (qb_one (qs_ret qe_bl)) qb_nil)
    (qb_cons (qs_if (qt_cm (cm_ne hr.units) (QE.p (qe_lam (ok__law_error X) hr TB (by rfl) h1 h2 (fun A outer s H E f c' hr => (qe_callF ((ok_gap_names X).up (by omega)) hr (takes_of rfl rfl rfl rfl) (qa_cons (qe_str [115, 101, 114, 105, 97, 108]) (qa_cons (qe_var 10) qa_nil)))))) (QE.p (qe_str [99, 111, 110, 100, 105, 116, 105, 111, 110]))) (qb_one (qs_ret qe_bl)) qb_nil)
    (qb_one (qs_if (qt_cm (cm_ne hr.units) (QE.p (qe_lam (ok__law_error X) hr TB (by rfl) h1 h2 (fun A outer s H E f c' hr => (qe_callF ((ok_gap_names X).up (by omega)) hr (takes_of rfl rfl rfl rfl) (qa_cons (qe_var 10) (qa_cons qe_non qa_nil)))))) (QE.p (qe_str [99, 111, 110, 100, 105, 116, 105, 111, 110]))) (qb_one (qs_ret qe_bl)) qb_nil)))))
    (qb_cons (qs_set (i := 13) sc_law.nd (qe_mul (QE.p (qe_tup (qa_cons (qe_tup (qa_cons (qe_str [114, 101, 97, 100]) (qa_cons (qe_str [120]) qa_nil))) (qa_cons (qe_tup (qa_cons (qe_str [97, 103, 97, 105, 110]) (qa_cons (qe_str [121]) qa_nil))) (qa_cons (qe_tup (qa_cons (qe_str [115, 101, 115, 115, 105, 111, 110]) (qa_cons (qe_str []) qa_nil))) (qa_cons (qe_tup (qa_cons (qe_str [97, 103, 97, 105, 110]) (qa_cons (qe_str [120]) qa_nil))) qa_nil)))))) (QE.p qe_int)))
    (qb_one (qs_ret (qe_and (QE.p (qe_callF ((ok__law_told X).up (by omega)) hr (takes_of rfl rfl rfl rfl) (qa_cons (qe_var 13) qa_nil))) (qe_and (QE.p (qe_callF ((ok__law_told X).up (by omega)) hr (takes_of rfl rfl rfl rfl) (qa_cons (qe_add (QE.p (qe_var 13)) (QE.p (qe_tup (qa_cons (qe_tup (qa_cons (qe_str [111, 118, 101, 114]) (qa_cons (qe_str [122]) qa_nil))) qa_nil)))) qa_nil))) (qe_one (qe_callF ((ok__law_told X).up (by omega)) hr (takes_of rfl rfl rfl rfl) (qa_cons (qe_add (QE.p (qe_var 13)) (QE.p (qe_tup (qa_cons (qe_tup (qa_cons (qe_str [97, 103, 97, 105, 110]) (qa_cons (qe_mul (QE.p (qe_str [97])) (QE.p qe_int)) qa_nil))) qa_nil)))) qa_nil)))))))))))))))
end
end Lk44

namespace Lk44
open PySem PySem.Spec L2 MM

/-! ### reckoning -/
theorem eComp_eq {α : Type} {it : MM.Env → T (List D)} {vs : List Nat} {tgt : D → MM.Env → Option MM.Env} {cond : MM.Env → T Bool} {elt : MM.Env → T D} {env : MM.Env} {xs : List α} {f : α → D} (c : α → Bool) (g : α → D)
    (h0 : it env = .ret (xs.map f)) (h : ∀ x ∈ xs, ∃ e, tgt (f x) (wipeE env vs) = some e ∧ cond e = .ret (c x) ∧ (c x = true → elt e = .ret (g x))) : eComp it vs tgt cond elt env = .ret (.lst ((xs.filter c).map g)) := by
  have : ∀ ys : List α, (∀ x ∈ ys, ∃ e, tgt (f x) (wipeE env vs) = some e ∧ cond e = .ret (c x) ∧ (c x = true → elt e = .ret (g x))) → compL tgt cond elt (wipeE env vs) (ys.map f) = .ret ((ys.filter c).map g) := by
    intro ys
    induction ys with
    | nil => intro _; rfl
    | cons y ys ih =>
      intro hy
      obtain ⟨e, h1, h2, h3⟩ := hy y List.mem_cons_self
      have i := ih fun x hx => hy x (List.mem_cons_of_mem _ hx)
      simp only [List.map_cons, compL, h1, ofO_some, T.bind_ret, h2, T.noX_ret]
      cases hc : c y with
      | true => simp only [if_true, h3 hc, T.noX_ret, T.bind_ret, i, List.filter_cons, hc, List.map_cons]
      | false => simp [i, List.filter_cons, hc]
  unfold eComp
  rw [h0, T.bind_ret, this xs h, T.bind_ret]
theorem eComp_all {α : Type} {it : MM.Env → T (List D)} {vs : List Nat} {tgt : D → MM.Env → Option MM.Env} {elt : MM.Env → T D} {env : MM.Env} {xs : List α} {f : α → D} (g : α → D)
    (h0 : it env = .ret (xs.map f)) (h : ∀ x ∈ xs, ∃ e, tgt (f x) (wipeE env vs) = some e ∧ elt e = .ret (g x)) : eComp it vs tgt tYesB elt env = .ret (.lst (xs.map g)) := by
  have := eComp_eq (cond := tYesB) (fun _ => true) g h0 fun x hx => let ⟨e, h1, h2⟩ := h x hx; ⟨e, h1, rfl, fun _ => h2⟩
  rw [this, List.filter_eq_self.mpr fun _ _ => rfl]
section
variable {i j : Nat} {f1 f2 : MM.Env → T D} {c : MM.Env → T Bool} {a b : MM.Env → T Fl} {env : MM.Env} {x y : D}
theorem par_eq (h1 : f1 env = .ret x) (h2 : f2 env = .ret y) (hl : (i < env.length && j < env.length) = true) : sPar i j (aCons f1 (aCons f2 aNil)) env = .ret (.nx ((env.set i (.frz x)).set j (.frz y))) := by
  unfold sPar
  rw [show (aCons f1 (aCons f2 aNil)) env = .ret [x, y] by unfold aCons aNil; simp only [h1, h2, T.bind_ret], T.bind_ret]
  show (if (i < env.length && j < env.length) = true then _ else _) = _
  rw [if_pos hl]
theorem if_t (h : c env = .ret true) : sIf c a b env = a env := by unfold sIf; rw [h, T.bind_ret, if_pos rfl]
theorem if_f (h : c env = .ret false) : sIf c a b env = b env := by unfold sIf; rw [h, T.bind_ret, if_neg (by simp)]
theorem run_eq {n : Nat} {b : MM.Env → T Fl} {ds : List D} {d : D} (h : b (startE n ds) = .ret (.rt d)) : runB n b ds = .ret d := by unfold runB; rw [h]; rfl
theorem ret_eq (h : f1 env = .ret x) : sRet f1 env = .ret (.rt x) := by unfold sRet; rw [h, T.bind_ret]
theorem own_eq (h : f1 env = .ret x) (hl : i < env.length) : sOwn i f1 env = .ret (.nx (env.set i (.own x))) := by unfold sOwn; rw [h, T.bind_ret, if_pos hl]
theorem set_eq (h : f1 env = .ret x) (hl : i < env.length) : sSet i f1 env = .ret (.nx (env.set i (.frz x))) := by unfold sSet; rw [h, T.bind_ret, if_pos hl]
theorem e2_eq {F : D → D → Option D} {z : D} (h1 : f1 env = .ret x) (h2 : f2 env = .ret y) (h : F x y = some z) : (e2 F f1 f2) env = .ret z := by unfold e2; rw [h1, T.bind_ret, h2, T.bind_ret, h, ofO_some]
theorem tB_eq {k : Bool} (h : f1 env = .ret (.bl k)) : (MM.tB f1) env = .ret k := by unfold MM.tB; rw [h, T.bind_ret]; rfl
theorem eAnd_eq {k l : Bool} (h1 : f1 env = .ret (.bl k)) (h2 : f2 env = .ret (.bl l)) : (eAnd f1 f2) env = .ret (.bl (k && l)) := by
  unfold eAnd
  rw [h1, T.bind_ret]
  show (T.ret k).bind _ = _
  rw [T.bind_ret]
  cases k with
  | true => rw [if_pos rfl, h2]; rfl
  | false => rfl
theorem eOr_eq {k l : Bool} (h1 : f1 env = .ret (.bl k)) (h2 : f2 env = .ret (.bl l)) : (eOr f1 f2) env = .ret (.bl (k || l)) := by
  unfold eOr
  rw [h1, T.bind_ret]
  show (T.ret k).bind _ = _
  rw [T.bind_ret]
  cases k with
  | true => rfl
  | false => rw [if_neg (by simp), h2]; rfl
theorem tAnd_eq {t1 t2 : MM.Env → T Bool} {k l : Bool} (h1 : t1 env = .ret k) (h2 : t2 env = .ret l) : (MM.tAnd t1 t2) env = .ret (k && l) := by
  unfold MM.tAnd
  rw [h1, T.bind_ret]
  cases k with
  | true => rw [if_pos rfl, h2]; rfl
  | false => rfl
theorem tOr_eq {t1 t2 : MM.Env → T Bool} {k l : Bool} (h1 : t1 env = .ret k) (h2 : t2 env = .ret l) : (MM.tOr t1 t2) env = .ret (k || l) := by
  unfold MM.tOr
  rw [h1, T.bind_ret]
  cases k with
  | true => rfl
  | false => rw [if_neg (by simp), h2]; rfl
theorem tNot_eq {t1 : MM.Env → T Bool} {k : Bool} (h1 : t1 env = .ret k) : (MM.tNot t1) env = .ret (!k) := by
  unfold MM.tNot
  rw [h1]
  rfl
theorem call1_eq {F : List D → Option D} {z : D} (h1 : f1 env = .ret x) (h : F [x] = some z) : (eCall F (aCons f1 aNil)) env = .ret z := by
  unfold eCall aCons
  rw [h1]
  show ofO (F [x]) = _
  rw [h]
  rfl
theorem fn1_eq {m : List D → T D} (h1 : f1 env = .ret x) : (eFn 1 m (aCons f1 aNil)) env = m [x] := by
  unfold eFn aCons
  rw [h1]
  rfl
theorem fn2_eq {m : List D → T D} (h1 : f1 env = .ret x) (h2 : f2 env = .ret y) : (eFn 2 m (aCons f1 (aCons f2 aNil))) env = m [x, y] := by
  unfold eFn
  rw [show (aCons f1 (aCons f2 aNil)) env = .ret [x, y] by unfold aCons aNil; simp only [h1, h2, T.bind_ret]]
  rfl
end
inductive Kd where
  | s | t | r | o | a
deriving DecidableEq
inductive Wd where
  | at | ca | pa | pr | sn | se
deriving DecidableEq
def kc : Kd → List Nat
  | .s => [115, 101, 115, 115, 105, 111, 110]
  | .t => [116, 105, 109, 101]
  | .r => [114, 101, 97, 100]
  | .o => [111, 118, 101, 114]
  | .a => [97, 103, 97, 105, 110]
def kd (k : Kd) : D := .str (kc k)
def wc : Wd → List Nat
  | .at => [97, 116, 111, 109, 105, 99]
  | .ca => [99, 97, 117, 115, 97, 108]
  | .pa => [112, 97, 114, 97, 108, 108, 101, 108]
  | .pr => [112, 114, 101, 102, 105, 120]
  | .sn => [115, 110, 97, 112, 115, 104, 111, 116]
  | .se => [115, 101, 114, 105, 97, 108]
def cc (w : Wd) (b : Bool) : List Nat := if b then [115, 116, 114, 105, 99, 116, 32] ++ wc w else wc w
def so : Kd → Int
  | .o => 1
  | .a => 2
  | _ => 0
def si (k : Kd) : D := .int (so k)
def P2 (p : Kd × Kd) : D := .tup [si p.1, si p.2]
theorem sort_ok (k : Kd) : m_sort_of [kd k] = .ret (si k) := by cases k <;> kernel_rfl
theorem word_ok (w : Wd) (b : Bool) : m_word_of [.str (cc w b)] = .ret (.str (wc w)) := by cases w <;> cases b <;> kernel_rfl
theorem zipL_map {α β : Type} (f : α → D) (g : β → D) : ∀ (as : List α) (bs : List β), zipL (as.map f) (bs.map g) = (as.zip bs).map fun p => .tup [f p.1, g p.2]
  | [], _ => by simp [zipL]
  | _ :: _, [] => by simp [zipL]
  | a :: as, b :: bs => by simp [zipL, zipL_map f g as bs]
theorem cut_from1 {α : Type} (xs : List α) : cutL xs (some 1) none = xs.drop 1 := by
  unfold cutL
  rw [show HT.sIx xs.length 0 (some 1) = min 1 xs.length from HT.sIx_nat _ _ 1]
  show (xs.drop (min 1 xs.length)).take (xs.length - min 1 xs.length) = _
  rw [List.take_of_length_le (by simp)]
  cases xs <;> simp
theorem cut_to1 {α : Type} (xs : List α) : cutL xs none (some 1) = xs.take 1 := by
  unfold cutL
  rw [show HT.sIx xs.length xs.length (some 1) = min 1 xs.length from HT.sIx_nat _ _ 1]
  show (xs.drop 0).take (min 1 xs.length - 0) = _
  cases xs <;> simp
theorem drop_last {α : Type} : ∀ {xs : List α} (h : xs ≠ []), xs.drop (xs.length - 1) = [xs.getLast h]
  | [x], _ => rfl
  | x :: y :: r, h => by
    have := drop_last (xs := y :: r) (by simp)
    simpa using this
theorem cut_last {α : Type} (xs : List α) (h : xs ≠ []) : cutL xs (some (-1)) none = [xs.getLast h] := by
  unfold cutL
  have hl : 0 < xs.length := List.length_pos_iff.mpr h
  rw [show HT.sIx xs.length 0 (some (-1)) = xs.length - 1 by show (if (-1 : Int) < 0 then ((-1 : Int) + (xs.length : Int)).toNat else min (-1 : Int).toNat xs.length) = _; rw [if_pos (by decide)]; omega]
  show (xs.drop (xs.length - 1)).take (xs.length - (xs.length - 1)) = _
  rw [drop_last h, List.take_of_length_le (by simp; omega)]
def cnt (ss : List Kd) : Nat := (ss.filter fun k => k = .a).length
def hasO (ss : List Kd) : Bool := ss.any fun k => k = .o
def pairs (ss : List Kd) : List (Kd × Kd) := ss.zip (ss.drop 1)
def okP (p : Kd × Kd) : Bool := !decide (p.2 = .a) || (so p.1 == 0)
def dbl (p : Kd × Kd) : Bool := decide (p.1 = .a) && decide (p.2 = .a)
def rowB : Wd → List Kd → Bool
  | .at, ss => decide (cnt ss = 0) || (decide (cnt ss = 1) && (decide (ss.length < 3) && !hasO ss))
  | .ca, ss => decide (cnt ss = 0) || (decide (cnt ss = 1) && !hasO ss)
  | .pa, ss => decide (cnt ss < 2)
  | .pr, ss => (pairs ss).all okP
  | .sn, ss => !(pairs ss).any dbl
  | .se, _ => true
theorem ints_map (f : Kd → Int) : ∀ ss : List Kd, intsD (ss.map fun k => .int (f k)) = some (ss.map f)
  | [] => rfl
  | k :: ss => by simp [intsD, ints_map f ss]
theorem countN_so : ∀ ss : List Kd, countN 2 (ss.map so) = cnt ss
  | [] => rfl
  | k :: ss => by
    have ih := countN_so ss
    cases k <;> simp [countN, so, cnt, ih] <;> exact ih
theorem anyEq_map {α : Type} (f : α → D) (x : D) (c : α → Bool) (h : ∀ a, (f a).eqv x = c a) : ∀ ss : List α, anyEq x (ss.map f) = ss.any c
  | [] => rfl
  | a :: ss => by simp [anyEq, h, anyEq_map f x c h ss]
theorem in_flat {α : Type} {x : D} {f : α → D} {c : α → Bool} {ss : List α} (hx : x.flat = true) (hf : ∀ a, (f a).flat = true) (h : ∀ a, (f a).eqv x = c a) : notInD x (.lst (ss.map f)) = some (.bl (!ss.any c)) ∧ inD x (.lst (ss.map f)) = some (.bl (ss.any c)) ∧ inD x (.tup (ss.map f)) = some (.bl (ss.any c)) ∧ notInD x (.tup (ss.map f)) = some (.bl (!ss.any c)) := by
  have ha : (ss.map f).all D.flat = true := by simp [hf]
  simp only [notInD, inD, inD0, hx, ha, Bool.and_self, if_true, anyEq_map f x c h, Option.map_some, and_self]
theorem all_map {α : Type} (c : α → Bool) : ∀ s : List α, allD [.lst (s.map fun x => D.bl (c x))] = some (.bl (s.all c)) := by
  intro s
  have : ∀ s : List α, allBl (s.map fun x => D.bl (c x)) = some (s.map c) := by
    intro s
    induction s with
    | nil => rfl
    | cons a s ih => simp [allBl, ih]
  have h2 : ∀ s : List α, allT (s.map c) = s.all c := by
    intro s
    induction s with
    | nil => rfl
    | cons a s ih => simp [allT, ih]
  simp only [allD, this, Option.map_some, h2]
theorem filter_all {α : Type} (c d : α → Bool) : ∀ s : List α, (s.filter c).all d = s.all fun x => !c x || d x
  | [] => rfl
  | a :: s => by
    rw [List.filter_cons, List.all_cons]
    cases h : c a <;> simp [filter_all c d s]
theorem row_ok (w : Wd) (ss : List Kd) (hs : ss.length ≤ 100000) : m_row_lets [.str (wc w), .lst (ss.map si)] = .ret (.bl (rowB w ss)) := by
  have hp : lzD [.lst (ss.map si), .lst (cutL (ss.map si) (some 1) none)] = some (.lst ((pairs ss).map P2)) := by
    rw [cut_from1, ← List.map_drop]
    simp only [lzD, zipL_map]
    rfl
  have hc : countD (.lst (ss.map si)) [.int 2] = some (.int (cnt ss : Nat)) := by
    simp only [countD]
    rw [show ss.map si = ss.map (fun k => .int (so k)) from rfl, ints_map, Option.map_some, countN_so]
  have e0 : (sPar 2 3 (aCons (eMeth "list" countD (eVar 1) (aCons (eC (.int 2)) aNil)) (aCons (eCall lzD (aCons (eVar 1) (aCons (eCut (eVar 1) (oSo (eC (.int 1))) oNo) aNil))) aNil))) [.frz (.str (wc w)), .frz (.lst (ss.map si)), .no, .no, .no, .no] =
      .ret (.nx [.frz (.str (wc w)), .frz (.lst (ss.map si)), .frz (.int (cnt ss : Nat)), .frz (.lst ((pairs ss).map P2)), .no, .no]) := by
    have e1 : (eMeth "list" countD (eVar 1) (aCons (eC (.int 2)) aNil)) [.frz (.str (wc w)), .frz (.lst (ss.map si)), .no, .no, .no, .no] = ofO (countD (.lst (ss.map si)) [.int 2]) := by kernel_rfl
    have e2 : (eCall lzD (aCons (eVar 1) (aCons (eCut (eVar 1) (oSo (eC (.int 1))) oNo) aNil))) [.frz (.str (wc w)), .frz (.lst (ss.map si)), .no, .no, .no, .no] = ofO (lzD [.lst (ss.map si), .lst (cutL (ss.map si) (some 1) none)]) := by kernel_rfl
    exact par_eq (e1.trans (by rw [hc]; rfl)) (e2.trans (by rw [hp]; rfl)) rfl
  obtain ⟨hO, _⟩ := in_flat (x := .int 1) (f := si) (c := fun k => decide (k = .o)) (ss := ss) rfl (fun _ => rfl) fun a => by cases a <;> rfl
  have hl : lenD [.lst (ss.map si)] = some (.int (ss.length : Nat)) := by simp [lenD]
  have hlt : ∀ n : Nat, ltD (.int (n : Nat)) (.int 3) = some (.bl (decide (n < 3))) := fun n => by
    simp only [ltD]
    congr 2
    apply decide_eq_decide.mpr
    omega
  have hlt2 : ∀ n : Nat, ltD (.int (n : Nat)) (.int 2) = some (.bl (decide (n < 2))) := fun n => by
    simp only [ltD]
    congr 2
    apply decide_eq_decide.mpr
    omega
  have heq : ∀ n m : Nat, eqD (.int (n : Nat)) (.int (m : Nat)) = some (.bl (decide (n = m))) := fun n m => by
    rw [eqD_int]
    congr 2
    apply decide_eq_decide.mpr
    omega
  have h0 : ∀ n : Nat, eqD (.int (n : Nat)) (.int 0) = some (.bl (decide (n = 0))) := fun n => heq n 0
  have h1 : ∀ n : Nat, eqD (.int (n : Nat)) (.int 1) = some (.bl (decide (n = 1))) := fun n => heq n 1
  have hpr : (eComp (iSq (eVar 3)) [4, 5] (sTup [4, 5]) (MM.tB (e2 eqD (eVar 5) (eC (.int 2)))) (e2 eqD (eVar 4) (eC (.int 0)))) [.frz (.str (wc w)), .frz (.lst (ss.map si)), .frz (.int (cnt ss : Nat)), .frz (.lst ((pairs ss).map P2)), .no, .no] =
      .ret (.lst (((pairs ss).filter fun p => decide (p.2 = .a)).map fun p => .bl (so p.1 == 0))) := by
    refine eComp_eq (xs := pairs ss) (f := P2) _ _ rfl fun p _ => ⟨[.frz (.str (wc w)), .frz (.lst (ss.map si)), .frz (.int (cnt ss : Nat)), .frz (.lst ((pairs ss).map P2)), .frz (si p.1), .frz (si p.2)], rfl, ?_, fun _ => ?_⟩
    · obtain ⟨k, l⟩ := p
      cases l <;> rfl
    · obtain ⟨k, l⟩ := p
      cases k <;> rfl
  have hsn : notInD (.tup [.int 2, .int 2]) (.lst ((pairs ss).map P2)) = some (.bl (!(pairs ss).any dbl)) := by
    have hf : okNL 63 ((pairs ss).map P2) = true := okNL_of fun d hd => by
      obtain ⟨p, _, rfl⟩ := List.mem_map.mp hd
      rfl
    have ha := anyEq_map P2 (.tup [.int 2, .int 2]) dbl (fun p => by obtain ⟨k, l⟩ := p; cases k <;> cases l <;> rfl) (pairs ss)
    simp only [notInD, inD0]
    rw [show (D.flat (.tup [.int 2, .int 2])) = false from rfl, Bool.false_and, if_neg (by simp), show D.okN 64 (.tup [.int 2, .int 2]) = true from rfl, hf, ha]
    rfl
  refine run_eq ((seq_eq e0).trans ?_)
  cases w
  · have q : (sIf (MM.tB (e2 eqD (eVar 0) (eC (.str [97, 116, 111, 109, 105, 99])))) (sRet (eOr (e2 eqD (eVar 2) (eC (.int 0))) (eAnd (e2 eqD (eVar 2) (eC (.int 1))) (eAnd (e2 ltD (eCall lenD (aCons (eVar 1) aNil)) (eC (.int 3))) (e2 notInD (eC (.int 1)) (eVar 1)))))) sNx) [.frz (.str (wc .at)), .frz (.lst (ss.map si)), .frz (.int (cnt ss : Nat)), .frz (.lst ((pairs ss).map P2)), .no, .no] = .ret (.rt (.bl (rowB .at ss))) := by
      unfold sIf
      rw [show (MM.tB (e2 eqD (eVar 0) (eC (.str [97, 116, 111, 109, 105, 99])))) [.frz (.str (wc .at)), .frz (.lst (ss.map si)), .frz (.int (cnt ss : Nat)), .frz (.lst ((pairs ss).map P2)), .no, .no] = .ret true from rfl, T.bind_ret, if_pos rfl]
      simp only [sSeq, sPar, sIf, sSet, sOwn, sFrz, sRet, sNx, sAsg, aCons, aNil, eC, eVar, pVar, eOr, eAnd, e1, e2, eCall, eIf, MM.tB, MM.tNot, MM.tAnd, MM.tOr, T.bind_ret, T.bind_bad, ofO, isBl, eMeth, eCut, oSo, oNo, isInt, eFn, lenL, runB, startE,
  List.getElem?_cons_zero, List.getElem?_cons_succ, List.set_cons_zero, List.set_cons_succ, List.length_cons, List.length_nil, if_true, if_false, Bool.false_eq_true, Bool.not_true, Bool.not_false, reduceIte, h0, h1, hl, hlt, hO]
      simp only [rowB, hasO]
      cases decide (cnt ss = 0) <;> cases decide (cnt ss = 1) <;> cases decide (ss.length < 3) <;> rfl
    exact seq_rt q
  · refine ((seq_eq (e' := [.frz (.str (wc .ca)), .frz (.lst (ss.map si)), .frz (.int (cnt ss : Nat)), .frz (.lst ((pairs ss).map P2)), .no, .no]) rfl).trans (seq_rt ?_))
    refine (if_t rfl).trans (ret_eq (eOr_eq (e2_eq rfl rfl (h0 _)) (eAnd_eq (e2_eq rfl rfl (h1 _)) (e2_eq rfl rfl hO))))
  · refine ((seq_eq (e' := [.frz (.str (wc .pa)), .frz (.lst (ss.map si)), .frz (.int (cnt ss : Nat)), .frz (.lst ((pairs ss).map P2)), .no, .no]) rfl).trans ((seq_eq (e' := [.frz (.str (wc .pa)), .frz (.lst (ss.map si)), .frz (.int (cnt ss : Nat)), .frz (.lst ((pairs ss).map P2)), .no, .no]) rfl).trans (seq_rt ?_)))
    exact (if_t rfl).trans (ret_eq (e2_eq rfl rfl (hlt2 _)))
  · refine ((seq_eq (e' := [.frz (.str (wc .pr)), .frz (.lst (ss.map si)), .frz (.int (cnt ss : Nat)), .frz (.lst ((pairs ss).map P2)), .no, .no]) rfl).trans ((seq_eq (e' := [.frz (.str (wc .pr)), .frz (.lst (ss.map si)), .frz (.int (cnt ss : Nat)), .frz (.lst ((pairs ss).map P2)), .no, .no]) rfl).trans
      ((seq_eq (e' := [.frz (.str (wc .pr)), .frz (.lst (ss.map si)), .frz (.int (cnt ss : Nat)), .frz (.lst ((pairs ss).map P2)), .no, .no]) rfl).trans (seq_rt ?_))))
    refine (if_t rfl).trans (ret_eq (call1_eq hpr ?_))
    rw [all_map, filter_all]
    rfl
  · refine ((seq_eq (e' := [.frz (.str (wc .sn)), .frz (.lst (ss.map si)), .frz (.int (cnt ss : Nat)), .frz (.lst ((pairs ss).map P2)), .no, .no]) rfl).trans ((seq_eq (e' := [.frz (.str (wc .sn)), .frz (.lst (ss.map si)), .frz (.int (cnt ss : Nat)), .frz (.lst ((pairs ss).map P2)), .no, .no]) rfl).trans
      ((seq_eq (e' := [.frz (.str (wc .sn)), .frz (.lst (ss.map si)), .frz (.int (cnt ss : Nat)), .frz (.lst ((pairs ss).map P2)), .no, .no]) rfl).trans ((seq_eq (e' := [.frz (.str (wc .sn)), .frz (.lst (ss.map si)), .frz (.int (cnt ss : Nat)), .frz (.lst ((pairs ss).map P2)), .no, .no]) rfl).trans ?_))))
    exact ret_eq (eOr_eq (k := false) rfl (e2_eq rfl rfl hsn))
  · refine ((seq_eq (e' := [.frz (.str (wc .se)), .frz (.lst (ss.map si)), .frz (.int (cnt ss : Nat)), .frz (.lst ((pairs ss).map P2)), .no, .no]) rfl).trans ((seq_eq (e' := [.frz (.str (wc .se)), .frz (.lst (ss.map si)), .frz (.int (cnt ss : Nat)), .frz (.lst ((pairs ss).map P2)), .no, .no]) rfl).trans
      ((seq_eq (e' := [.frz (.str (wc .se)), .frz (.lst (ss.map si)), .frz (.int (cnt ss : Nat)), .frz (.lst ((pairs ss).map P2)), .no, .no]) rfl).trans ((seq_eq (e' := [.frz (.str (wc .se)), .frz (.lst (ss.map si)), .frz (.int (cnt ss : Nat)), .frz (.lst ((pairs ss).map P2)), .no, .no]) rfl).trans ?_))))
    exact ret_eq (eOr_eq (k := true) rfl (e2_eq rfl rfl hsn))
end Lk44

namespace Lk44
open PySem PySem.Spec L2 MM

def hasT (ss : List Kd) : Bool := ss.any fun k => k = .t
def lastK (ks : List Kd) : Kd := ks.getLast?.getD .s
def frame (ks : List Kd) : List Kd := [lastK ks, ks.head?.getD .s]
def forbB (w : Wd) (b : Bool) (ks : List Kd) : Bool := if hasT ks && !b then false else rowB w ks && rowB w (frame ks)
theorem kd_eq (x k : Kd) : (kd k).eqv (kd x) = decide (k = x) := by cases x <;> cases k <;> rfl
theorem in_kd (x : Kd) (ks : List Kd) : inD (kd x) (.tup (ks.map kd)) = some (.bl (ks.any fun k => k = x)) := (in_flat (x := kd x) (f := kd) (c := fun k => decide (k = x)) (ss := ks) rfl (fun _ => rfl) (kd_eq x)).2.2.1
theorem word_strict (w : Wd) (b : Bool) : eqD (.str (wc w)) (.str (cc w b)) = some (.bl (!b)) := by cases w <;> cases b <;> rfl
theorem forb_ok (w : Wd) (b : Bool) (ks : List Kd) (h0 : ks ≠ []) (hs : ks.length ≤ 100000) : m_forbids_kinds [.str (cc w b), .tup (ks.map kd)] = .ret (.bl (forbB w b ks)) := by
  have h1 : (eComp (iSq (eVar 1)) [4] (sName 4) tYesB (eFn 1 m_sort_of (aCons (eVar 4) aNil))) [.frz (.str (cc w b)), .frz (.tup (ks.map kd)), .no, .no, .no] = .ret (.lst (ks.map si)) := by
    refine eComp_all (xs := ks) (f := kd) si rfl fun k _ => ⟨[.frz (.str (cc w b)), .frz (.tup (ks.map kd)), .no, .no, .frz (kd k)], rfl, ?_⟩
    exact (fn1_eq rfl).trans (sort_ok k)
  have e2' : (eFn 1 m_word_of (aCons (eVar 0) aNil)) [.frz (.str (cc w b)), .frz (.tup (ks.map kd)), .no, .no, .no] = .ret (.str (wc w)) := (fn1_eq rfl).trans (word_ok w b)
  have hc : cutL (ks.map si) (some (-1)) none = [si (lastK ks)] := by
    rw [cut_last _ (by simpa using h0)]
    rw [List.getLast_map]
    unfold lastK
    rw [List.getLast?_eq_getLast h0]
    rfl
  have hc2 : cutL (ks.map si) none (some 1) = [si (ks.head?.getD .s)] := by
    rw [cut_to1]
    cases ks with
    | nil => exact absurd rfl h0
    | cons k r => rfl
  have f1 : (e2 addD (eCut (eVar 2) (oSo (e1 negD (eC (.int 1)))) oNo) (eCut (eVar 2) oNo (oSo (eC (.int 1))))) [.frz (.str (cc w b)), .frz (.tup (ks.map kd)), .frz (.lst (ks.map si)), .frz (.str (wc w)), .no] = .ret (.lst ((frame ks).map si)) := by
    refine e2_eq (x := .lst (cutL (ks.map si) (some (-1)) none)) (y := .lst (cutL (ks.map si) none (some 1))) rfl rfl ?_
    rw [hc, hc2]
    rfl
  refine run_eq ((seq_eq (par_eq h1 e2' rfl)).trans ?_)
  have ht : (MM.tAnd (MM.tB (e2 inD (eC (.str [116, 105, 109, 101])) (eVar 1))) (MM.tB (e2 eqD (eVar 3) (eVar 0)))) [.frz (.str (cc w b)), .frz (.tup (ks.map kd)), .frz (.lst (ks.map si)), .frz (.str (wc w)), .no] = .ret (hasT ks && !b) :=
    tAnd_eq (tB_eq (e2_eq (y := .tup (ks.map kd)) rfl rfl (in_kd .t ks))) (tB_eq (e2_eq rfl rfl (word_strict w b)))
  unfold forbB
  cases hh : hasT ks && !b with
  | true =>
    rw [hh] at ht
    exact seq_rt (if_t ht)
  | false =>
    rw [hh] at ht
    refine (seq_eq (if_f ht)).trans ?_
    refine ret_eq (eAnd_eq ((fn2_eq rfl rfl).trans (row_ok w ks hs)) ((fn2_eq rfl f1).trans (row_ok w (frame ks) ?_)))
    simp [frame]
theorem acons2 {f1 f2 : MM.Env → T D} {env : MM.Env} {x y : D} (h1 : f1 env = .ret x) (h2 : f2 env = .ret y) : (aCons f1 (aCons f2 aNil)) env = .ret [x, y] := by unfold aCons aNil; simp only [h1, h2, T.bind_ret]
/-! ### the law's own -/
def gc : Kd → List Nat
  | .a => [97, 103, 97, 105, 110]
  | .o => [111, 118, 101, 114]
  | _ => [98, 97, 115, 101]
def gd (k : Kd) : D := .str (gc k)
def isBase (k : Kd) : Bool := so k == 0
def cyc (ks : List Kd) : List (Kd × Kd) := (lastK ks :: ks).zip ks
def ahead (ks : List Kd) : List Kd := ((cyc ks).filter fun p => p.2 = .a).map (·.1)
theorem upto_range : ∀ n i : Nat, upto n (i : Int) = (List.range' i n).map fun k : Nat => D.int k
  | 0, i => rfl
  | n + 1, i => by
    rw [upto, List.range'_succ, List.map_cons]
    have := upto_range n (i + 1)
    rw [← this]
    rfl
theorem rng1_nat {n : Nat} (h : n ≤ 100000) : rng1 [.int (n : Nat)] = some ((List.range n).map fun k : Nat => D.int k) := by
  have hb : bnd (n : Nat) = true := by
    unfold bnd
    simp
    omega
  simp only [rng1, hb, if_true, Int.toNat_natCast]
  rw [List.range_eq_range']
  exact congrArg some (upto_range n 0)
theorem ix_nat {xs : List D} {i : Nat} {d : D} (h : xs[i]? = some d) : ixD (.lst xs) (.int (i : Nat)) = some d := by
  have hi := (List.getElem?_eq_some_iff.mp h).1
  simp only [ixD, ixN_nat hi, Option.bind_some, h]
theorem ix_last {xs : List D} {d : D} (h : xs.getLast? = some d) : ixD (.lst xs) (.int (-1)) = some d := by
  have h0 : xs ≠ [] := fun z => by rw [z] at h; cases h
  have hl : 0 < xs.length := List.length_pos_iff.mpr h0
  have : ixN xs.length (-1) = some (xs.length - 1) := by
    unfold ixN
    simp
    omega
  simp only [ixD, this, Option.bind_some]
  rw [← h, List.getLast?_eq_getElem?]
theorem zip_range {α β : Type} (da : α) (db : β) {as : List α} {bs : List β} (h : bs.length ≤ as.length) : (List.range bs.length).map (fun i => (as[i]?.getD da, bs[i]?.getD db)) = as.zip bs := by
  apply List.ext_getElem
  · simp; omega
  · intro i h1 h2
    simp at h1 h2
    have ha : i < as.length := Nat.lt_of_lt_of_le h2 (Nat.min_le_left _ _)
    have hb : i < bs.length := Nat.lt_of_lt_of_le h2 (Nat.min_le_right _ _)
    simp [ha, hb]
theorem skip {c : MM.Env → T Bool} {a b : MM.Env → T Fl} {env : MM.Env} (h : c env = .ret false) : sSeq (sIf c a sNx) b env = b env := by unfold sSeq; rw [if_f h]; rfl
theorem stop {c : MM.Env → T Bool} {a b : MM.Env → T Fl} {env : MM.Env} {x : D} (h : c env = .ret true) (h2 : a env = .ret (.rt x)) : sSeq (sIf c a sNx) b env = .ret (.rt x) := by unfold sSeq; rw [if_t h, h2]; rfl
theorem okNL_strs {α : Type} (f : α → List Nat) : ∀ xs : List α, okNL 63 (xs.map fun x => D.str (f x)) = true
  | [] => rfl
  | x :: xs => by
    show (D.okN 63 (.str (f x)) && _) = true
    rw [okNL_strs f xs]
    rfl
theorem eqD_lists {xs ys : List D} (hx : okNL 63 xs = true) (hy : okNL 63 ys = true) : eqD (.lst xs) (.lst ys) = some (.bl (eqvL xs ys)) := by
  unfold eqD
  rw [show D.okN 64 (.lst xs) = okNL 63 xs from rfl, show D.okN 64 (.lst ys) = okNL 63 ys from rfl, hx, hy]
  rfl
theorem eqvL_nil (xs : List D) : eqvL xs [] = xs.isEmpty := by cases xs <;> rfl
def lforbB (w : Wd) (b : Bool) (ks : List Kd) : Bool := if hasT ks && !b then false else match w with
  | .at => (ahead ks).isEmpty || (decide (ks.length = 2) && match ahead ks with | [k] => isBase k | _ => false)
  | .ca => (ahead ks).isEmpty || (decide ((ahead ks).length = 1) && !hasO ks)
  | .pa => decide ((ahead ks).length < 2)
  | .pr => (ahead ks).all isBase
  | .sn => !(ahead ks).any fun k => k = .a
  | .se => true
theorem gd_cond (k : Kd) (env : MM.Env) (h : env[4]? = some (.frz (kd k))) : (eIf (MM.tB (e2 eqD (eVar 4) (eC (.str [97, 103, 97, 105, 110])))) (eC (.str [97, 103, 97, 105, 110])) (eIf (MM.tB (e2 eqD (eVar 4) (eC (.str [111, 118, 101, 114])))) (eC (.str [111, 118, 101, 114])) (eC (.str [98, 97, 115, 101])))) env = .ret (gd k) := by
  have hv : (eVar 4) env = .ret (kd k) := by unfold eVar; rw [h]
  unfold eIf MM.tB e2
  simp only [hv, T.bind_ret]
  cases k <;> rfl
theorem getD_map {α : Type} {f : α → D} {xs : List α} {i : Nat} (d : α) (h : i < xs.length) : (xs.map f)[i]? = some (f (xs[i]?.getD d)) := by
  rw [List.getElem?_map, List.getElem?_eq_getElem h]
  rfl
theorem gd_a (k : Kd) : eqD (gd k) (.str [97, 103, 97, 105, 110]) = some (.bl (decide (k = .a))) := by cases k <;> rfl
/-- an item of a list, and the one ahead of it -/
theorem ix_prev {f : Kd → D} {ks : List Kd} {i : Nat} (h : i < ks.length) : ixD (.lst (ks.map f)) (.int ((i : Nat) - 1)) = some (f ((lastK ks :: ks)[i]?.getD .s)) := by
  cases i with
  | zero =>
    have h0 : ks ≠ [] := fun z => by rw [z] at h; cases h
    refine (ix_last (d := f (lastK ks)) ?_)
    rw [List.getLast?_map, List.getLast?_eq_getLast h0]
    unfold lastK
    rw [List.getLast?_eq_getLast h0]
    rfl
  | succ j =>
    rw [show ((j + 1 : Nat) : Int) - 1 = (j : Nat) by omega]
    refine ix_nat ?_
    rw [getD_map .s (by omega)]
    simp
theorem ahead_of {f : Kd → D} {ks : List Kd} (c : Nat → Bool) (hc : ∀ i, i < ks.length → c i = decide (ks[i]?.getD .s = .a)) : ((List.range ks.length).filter c).map (fun i => f ((lastK ks :: ks)[i]?.getD .s)) = (ahead ks).map f := by
  have hz : cyc ks = (List.range ks.length).map (fun i => ((lastK ks :: ks)[i]?.getD .s, ks[i]?.getD .s)) := (zip_range Kd.s Kd.s (as := lastK ks :: ks) (bs := ks) (by simp)).symm
  unfold ahead
  rw [hz, List.filter_map, List.map_map, List.map_map]
  rw [List.filter_congr fun i hi => (hc i (List.mem_range.mp hi)).trans (show _ = ((fun p : Kd × Kd => decide (p.2 = .a)) ∘ fun i => ((lastK ks :: ks)[i]?.getD .s, ks[i]?.getD .s)) i from rfl)]
  rfl
theorem lforb_ok (w : Wd) (b : Bool) (ks : List Kd) (hs : ks.length ≤ 100000) : m__law_forbids [.str (cc w b), .tup (ks.map kd)] = .ret (.bl (lforbB w b ks)) := by
  have g0 : (e2 ixD (eMeth "str" splitD (eVar 0) (aCons (eC (.str [32])) aNil)) (e1 negD (eC (.int 1)))) [.frz (.str (cc w b)), .frz (.tup (ks.map kd)), .no, .no, .no, .no, .no, .no] = .ret (.str (wc w)) := by cases w <;> cases b <;> kernel_rfl
  have g1 : (eComp (iSq (eVar 1)) [4] (sName 4) tYesB (eIf (MM.tB (e2 eqD (eVar 4) (eC (.str [97, 103, 97, 105, 110])))) (eC (.str [97, 103, 97, 105, 110])) (eIf (MM.tB (e2 eqD (eVar 4) (eC (.str [111, 118, 101, 114])))) (eC (.str [111, 118, 101, 114])) (eC (.str [98, 97, 115, 101]))))) [.frz (.str (cc w b)), .frz (.tup (ks.map kd)), .no, .no, .no, .no, .no, .no] = .ret (.lst (ks.map gd)) :=
    eComp_all (xs := ks) (f := kd) gd rfl fun k _ => ⟨[.frz (.str (cc w b)), .frz (.tup (ks.map kd)), .no, .no, .frz (kd k), .no, .no, .no], rfl, gd_cond k _ rfl⟩
  have s0 : (sAsg (sTup [2, 3]) (eTup (aCons (e2 ixD (eMeth "str" splitD (eVar 0) (aCons (eC (.str [32])) aNil)) (e1 negD (eC (.int 1)))) (aCons (eComp (iSq (eVar 1)) [4] (sName 4) tYesB (eIf (MM.tB (e2 eqD (eVar 4) (eC (.str [97, 103, 97, 105, 110])))) (eC (.str [97, 103, 97, 105, 110])) (eIf (MM.tB (e2 eqD (eVar 4) (eC (.str [111, 118, 101, 114])))) (eC (.str [111, 118, 101, 114])) (eC (.str [98, 97, 115, 101]))))) aNil)))) [.frz (.str (cc w b)), .frz (.tup (ks.map kd)), .no, .no, .no, .no, .no, .no] =
      .ret (.nx [.frz (.str (cc w b)), .frz (.tup (ks.map kd)), .frz (.str (wc w)), .frz (.lst (ks.map gd)), .no, .no, .no, .no]) := by
    unfold sAsg eTup
    rw [acons2 g0 g1]
    rfl
  have g2 : (eComp (iArg rng1 (aCons (eCall lenD (aCons (eVar 3) aNil)) aNil)) [6] (sName 6) (MM.tB (e2 eqD (e2 ixD (eVar 3) (eVar 6)) (eC (.str [97, 103, 97, 105, 110])))) (e2 ixD (eVar 3) (e2 subD (eVar 6) (eC (.int 1))))) [.frz (.str (cc w b)), .frz (.tup (ks.map kd)), .frz (.str (wc w)), .frz (.lst (ks.map gd)), .no, .no, .no, .no] =
      .ret (.lst ((ahead ks).map gd)) := by
    have hi : (iArg rng1 (aCons (eCall lenD (aCons (eVar 3) aNil)) aNil)) [.frz (.str (cc w b)), .frz (.tup (ks.map kd)), .frz (.str (wc w)), .frz (.lst (ks.map gd)), .no, .no, .no, .no] = .ret ((List.range ks.length).map fun k : Nat => D.int k) := by
      refine (show _ = ofO (rng1 [.int ((ks.map gd).length : Nat)]) from rfl).trans ?_
      rw [List.length_map, rng1_nat hs]
      rfl
    rw [eComp_eq (xs := List.range ks.length) (f := fun k : Nat => D.int k) (fun i => decide (ks[i]?.getD .s = .a)) (fun i => gd ((lastK ks :: ks)[i]?.getD .s)) hi fun i hi => ⟨[.frz (.str (cc w b)), .frz (.tup (ks.map kd)), .frz (.str (wc w)), .frz (.lst (ks.map gd)), .no, .no, .frz (.int i), .no], rfl,
      tB_eq (e2_eq (e2_eq (x := .lst (ks.map gd)) (y := .int i) rfl rfl (ix_nat (getD_map .s (List.mem_range.mp hi)))) rfl (gd_a _)), fun _ => e2_eq (x := .lst (ks.map gd)) (y := .int ((i : Nat) - 1)) rfl rfl (ix_prev (List.mem_range.mp hi))⟩]
    rw [ahead_of _ fun i _ => rfl]
  refine run_eq ((seq_eq s0).trans ((seq_eq (own_eq g2 (by show (5 : Nat) < 8; decide))).trans ?_))
  show (sSeq _ _) [.frz (.str (cc w b)), .frz (.tup (ks.map kd)), .frz (.str (wc w)), .frz (.lst (ks.map gd)), .no, .frz (.lst ((ahead ks).map gd)), .no, .no] = _
  have ht : (MM.tAnd (MM.tB (e2 inD (eC (.str [116, 105, 109, 101])) (eVar 1))) (MM.tB (e2 eqD (eVar 2) (eVar 0)))) [.frz (.str (cc w b)), .frz (.tup (ks.map kd)), .frz (.str (wc w)), .frz (.lst (ks.map gd)), .no, .frz (.lst ((ahead ks).map gd)), .no, .no] = .ret (hasT ks && !b) :=
    tAnd_eq (tB_eq (e2_eq (y := .tup (ks.map kd)) rfl rfl (in_kd .t ks))) (tB_eq (e2_eq rfl rfl (word_strict w b)))
  unfold lforbB
  cases hh : hasT ks && !b with
  | true =>
    rw [hh] at ht
    exact seq_rt (if_t ht)
  | false =>
    rw [hh] at ht
    refine (seq_eq (if_f ht)).trans ?_
    have hN : (e2 eqD (eVar 5) (eLst aNil)) [.frz (.str (cc w b)), .frz (.tup (ks.map kd)), .frz (.str (wc w)), .frz (.lst (ks.map gd)), .no, .frz (.lst ((ahead ks).map gd)), .no, .no] = .ret (.bl (ahead ks).isEmpty) := by
      refine e2_eq rfl rfl ((eqD_lists (okNL_strs gc _) rfl).trans ?_)
      rw [eqvL_nil, List.isEmpty_map]
    have hlen : lenD [.lst ((ahead ks).map gd)] = some (.int ((ahead ks).length : Nat)) := by simp [lenD]
    have hlen2 : lenD [.lst (ks.map gd)] = some (.int (ks.length : Nat)) := by simp [lenD]
    have heq : ∀ n m : Nat, eqD (.int (n : Nat)) (.int (m : Nat)) = some (.bl (decide (n = m))) := fun n m => by
      rw [eqD_int]
      congr 2
      apply decide_eq_decide.mpr
      omega
    have hlt2 : ∀ n : Nat, ltD (.int (n : Nat)) (.int 2) = some (.bl (decide (n < 2))) := fun n => by
      simp only [ltD]
      congr 2
      apply decide_eq_decide.mpr
      omega
    cases w
    · refine stop rfl (ret_eq (eOr_eq hN (eAnd_eq (e2_eq (call1_eq rfl hlen2) rfl (heq _ 2)) (e2_eq (y := .lst [.str [98, 97, 115, 101]]) rfl rfl ((eqD_lists (okNL_strs gc _) rfl).trans ?_)))))
      congr 2
      cases ahead ks with
      | nil => rfl
      | cons k r =>
        cases r with
        | nil => cases k <;> rfl
        | cons l r => cases k <;> rfl
    · refine (skip rfl).trans (stop rfl (ret_eq (eOr_eq hN (eAnd_eq (e2_eq (call1_eq rfl hlen) rfl (heq _ 1)) (e2_eq (y := .lst (ks.map gd)) rfl rfl ?_)))))
      exact (in_flat (x := .str [111, 118, 101, 114]) (f := gd) (c := fun k => decide (k = .o)) (ss := ks) rfl (fun _ => rfl) fun k => by cases k <;> rfl).1
    · exact (skip rfl).trans ((skip rfl).trans (stop rfl (ret_eq (e2_eq (call1_eq rfl hlen) rfl (hlt2 _)))))
    · refine (skip rfl).trans ((skip rfl).trans ((skip rfl).trans (stop rfl (ret_eq (e2_eq (x := .lst (((ahead ks).filter fun k => !isBase k).map gd)) (y := .lst []) ?_ rfl ((eqD_lists (okNL_strs gc _) rfl).trans ?_))))))
      · refine eComp_eq (xs := ahead ks) (f := gd) (fun k => !isBase k) gd rfl fun k _ => ⟨[.frz (.str (cc .pr b)), .frz (.tup (ks.map kd)), .frz (.str (wc .pr)), .frz (.lst (ks.map gd)), .no, .frz (.lst ((ahead ks).map gd)), .no, .frz (gd k)], rfl, ?_, fun _ => rfl⟩
        cases k <;> rfl
      · rw [eqvL_nil, List.isEmpty_map]
        congr 2
        generalize ahead ks = l
        induction l with
        | nil => rfl
        | cons k l ih =>
          rw [List.filter_cons, List.all_cons]
          cases hk : isBase k with
          | true => simpa using ih
          | false => simp
    · refine (skip rfl).trans ((skip rfl).trans ((skip rfl).trans ((skip rfl).trans (ret_eq (eOr_eq (k := false) rfl (e2_eq (y := .lst ((ahead ks).map gd)) rfl rfl ?_))))))
      exact (in_flat (x := .str [97, 103, 97, 105, 110]) (f := gd) (c := fun k => decide (k = .a)) (ss := ahead ks) rfl (fun _ => rfl) fun k => by cases k <;> rfl).1
    · refine (skip rfl).trans ((skip rfl).trans ((skip rfl).trans ((skip rfl).trans (ret_eq (eOr_eq (k := true) (l := !(ahead ks).any fun k => k = .a) rfl (e2_eq (y := .lst ((ahead ks).map gd)) rfl rfl ?_))))))
      exact (in_flat (x := .str [97, 103, 97, 105, 110]) (f := gd) (c := fun k => decide (k = .a)) (ss := ahead ks) rfl (fun _ => rfl) fun k => by cases k <;> rfl).1
/-! ### the two rules are one -/
theorem cyc_cons (k : Kd) (r : List Kd) : cyc (k :: r) = (lastK (k :: r), k) :: pairs (k :: r) := rfl
theorem cyc_snd (ks : List Kd) : (cyc ks).map (·.2) = ks := by
  unfold cyc
  rw [List.map_snd_zip]
  simp
theorem ahead_len (ks : List Kd) : (ahead ks).length = cnt ks := by
  unfold ahead cnt
  rw [List.length_map]
  conv => rhs; rw [← cyc_snd ks, List.filter_map, List.length_map]
  rfl
theorem any_ahead (ks : List Kd) (c : Kd → Bool) : (ahead ks).any c = (cyc ks).any fun p => decide (p.2 = .a) && c p.1 := by
  unfold ahead
  rw [List.any_map, List.any_filter]
  rfl
theorem all_ahead (ks : List Kd) (c : Kd → Bool) : (ahead ks).all c = (cyc ks).all fun p => !decide (p.2 = .a) || c p.1 := by
  unfold ahead
  rw [List.all_map, List.all_filter]
  rfl
theorem two_split {ks : List Kd} (h : 2 ≤ ks.length) : ∃ f m l, ks = f :: m ++ [l] := by
  cases ks with
  | nil => simp at h
  | cons f r =>
    have hr : r ≠ [] := fun z => by rw [z] at h; simp at h
    exact ⟨f, r.dropLast, r.getLast hr, by rw [List.cons_append, List.dropLast_concat_getLast hr]⟩
theorem forb_same (w : Wd) (b : Bool) (ks : List Kd) (h : 2 ≤ ks.length) : forbB w b ks = lforbB w b ks := by
  obtain ⟨f, m, l, rfl⟩ := two_split h
  unfold forbB lforbB
  have hla : lastK (f :: m ++ [l]) = l := by
    unfold lastK
    rw [List.getLast?_append]
    rfl
  have hf : frame (f :: m ++ [l]) = [l, f] := by
    unfold frame
    rw [hla]
    rfl
  rw [hf]
  split
  · rfl
  have hc : cyc (f :: m ++ [l]) = (l, f) :: pairs (f :: m ++ [l]) := by
    rw [List.cons_append, cyc_cons, ← List.cons_append, hla]
  have he : (ahead (f :: m ++ [l])).isEmpty = decide (cnt (f :: m ++ [l]) = 0) := by
    rw [← ahead_len]
    cases ahead (f :: m ++ [l]) <;> simp
  have hn : cnt (f :: m ++ [l]) = cnt [f] + cnt m + cnt [l] := by
    unfold cnt
    rw [List.cons_append, show f :: (m ++ [l]) = [f] ++ (m ++ [l]) from rfl, List.filter_append, List.filter_append, List.length_append, List.length_append]
    omega
  have hfr : cnt [l, f] = cnt [l] + cnt [f] := by
    unfold cnt
    rw [show [l, f] = [l] ++ [f] from rfl, List.filter_append, List.length_append]
  have ho : hasO (f :: m ++ [l]) = (hasO [f] || hasO m || hasO [l]) := by simp [hasO, Bool.or_assoc]
  have hof : hasO [l, f] = (hasO [l] || hasO [f]) := by simp [hasO]
  cases w
  · cases m with
    | nil => cases f <;> cases l <;> rfl
    | cons k m =>
      simp only [rowB, he, hfr]
      rw [show decide ((f :: k :: m ++ [l]).length < 3) = false by simp, show decide ((f :: k :: m ++ [l]).length = 2) = false by simp]
      simp only [Bool.false_and, Bool.and_false, Bool.or_false]
      generalize cnt (f :: k :: m ++ [l]) = n at hn
      by_cases z : n = 0
      · have : cnt [l] + cnt [f] = 0 := by omega
        simp [z, this]
      · simp [z]
  · simp only [rowB, he, hfr, ahead_len, hof, ho]
    generalize cnt (f :: m ++ [l]) = n at hn
    generalize cnt [l] = x at hn
    generalize cnt [f] = y at hn
    generalize hasO [f] = p
    generalize hasO m = q
    generalize hasO [l] = r
    by_cases z : n = 0
    · have : x + y = 0 := by omega
      simp [z, this]
    · by_cases w : n = 1
      · have : x + y = 0 ∨ x + y = 1 := by omega
        rw [decide_eq_false z, decide_eq_true w]
        cases p <;> cases q <;> cases r <;> simp
        omega
      · rw [decide_eq_false z, decide_eq_false w]
        simp
  · simp only [rowB, hfr, ahead_len]
    generalize cnt (f :: m ++ [l]) = n at hn
    by_cases z : n < 2
    · have : cnt [l] + cnt [f] < 2 := by omega
      simp [z, this]
    · simp [z]
  · simp only [rowB, all_ahead, hc, List.all_cons]
    have : (pairs [l, f]).all okP = okP (l, f) := by simp [pairs]
    rw [this, Bool.and_comm]
    rfl
  · simp only [rowB, any_ahead, hc, List.any_cons]
    have : (pairs [l, f]).any dbl = dbl (l, f) := by simp [pairs]
    rw [this, Bool.not_or, Bool.and_comm]
    have e : ∀ p : Kd × Kd, dbl p = (decide (p.2 = .a) && decide (p.1 = .a)) := fun p => by unfold dbl; rw [Bool.and_comm]
    rw [e, show dbl = (fun p : Kd × Kd => decide (p.2 = .a) && decide (p.1 = .a)) from funext e]
  · rfl
end Lk44

namespace Lk44
open PySem PySem.Spec L2 MM

def LL : List Nat := [97, 98, 99, 100, 101, 102, 103, 104, 105, 106, 107, 108, 109, 110, 111, 112, 113, 114, 115, 116, 117, 118, 119, 120, 121, 122]
def DD : List Nat := [48, 49, 50, 51, 52, 53, 54, 55, 56, 57]
def isN (s : List Nat) : Bool := match s with
  | [] => false
  | c :: t => decide (t.length < 12) && memN c LL && (c :: t).all fun x => memN x (LL ++ DD)
theorem ix0 {c : Nat} {t : List Nat} : ixD (.str (c :: t)) (.int 0) = some (.str [c]) := by
  have h := ixN_nat (n := (c :: t).length) (i := 0) (by simp)
  simp only [ixD]
  rw [show ixN (c :: t).length 0 = some 0 from h]
  rfl
theorem allBl_map (f : Nat → Bool) : ∀ s : List Nat, allBl (s.map fun c => D.bl (f c)) = some (s.map f)
  | [] => rfl
  | c :: s => by simp [allBl, allBl_map f s]
theorem allT_map (f : Nat → Bool) : ∀ s : List Nat, allT (s.map f) = s.all f
  | [] => rfl
  | c :: s => by simp [allT, allT_map f s]
theorem notIn1 {c : Nat} {t : List Nat} : notInD (.str [c]) (.str t) = some (.bl (!memN c t)) := rfl
theorem in1 {c : Nat} {t : List Nat} : inD (.str [c]) (.str t) = some (.bl (memN c t)) := rfl
theorem name_eq (s : List Nat) : m_is_name [.str s] = .ret (.bl (isN s)) := by
  cases s with
  | nil => kernel_rfl
  | cons c t =>
    have h1 : (MM.tB (e1 (isiD "str") (eVar 0))) [.frz (.str (c :: t)), .no] = .ret true := by kernel_rfl
    have h2 : (MM.tB (e3 leI leI (eC (.int 1)) (eCall lenD (aCons (eVar 0) aNil)) (eC c_NAME_LENGTH))) [.frz (.str (c :: t)), .no] = .ret (decide (t.length < 12)) := by
      have e : (MM.tB (e3 leI leI (eC (.int 1)) (eCall lenD (aCons (eVar 0) aNil)) (eC c_NAME_LENGTH))) [.frz (.str (c :: t)), .no] =
        (if decide ((1 : Int) ≤ ((c :: t).length : Nat)) = true then T.ret (D.bl (decide ((((c :: t).length : Nat) : Int) ≤ 12))) else T.ret (D.bl false)).bind fun x => ofO (isBl x) := by kernel_rfl
      rw [e, if_pos (by simp; omega)]
      show T.ret (decide ((((c :: t).length : Nat) : Int) ≤ 12)) = _
      congr 1
      apply decide_eq_decide.mpr
      simp
      omega
    have h3 : (MM.tB (e2 notInD (e2 ixD (eVar 0) (eC (.int 0))) (eC c_LETTERS))) [.frz (.str (c :: t)), .no] = .ret (!memN c LL) := by
      have e : (MM.tB (e2 notInD (e2 ixD (eVar 0) (eC (.int 0))) (eC c_LETTERS))) [.frz (.str (c :: t)), .no] = (((ofO (ixD (.str (c :: t)) (.int 0))).bind fun x => ofO (notInD x c_LETTERS))).bind fun x => ofO (isBl x) := by kernel_rfl
      rw [e, ix0]
      kernel_rfl
    have h4 : (eComp (iSq (eVar 0)) [1] (sName 1) tYesB (e2 inD (eVar 1) (e2 addD (eC c_LETTERS) (eC c_DIGITS)))) [.frz (.str (c :: t)), .no] = .ret (.lst ((c :: t).map fun x => D.bl (memN x (LL ++ DD)))) := by
      have e : (eComp (iSq (eVar 0)) [1] (sName 1) tYesB (e2 inD (eVar 1) (e2 addD (eC c_LETTERS) (eC c_DIGITS)))) [.frz (.str (c :: t)), .no] =
        (compL (sName 1) tYesB (e2 inD (eVar 1) (e2 addD (eC c_LETTERS) (eC c_DIGITS))) [.frz (.str (c :: t)), .no] ((c :: t).map fun x => D.str [x])).bind fun ys => .ret (D.lst ys) := by kernel_rfl
      rw [e, compL_map fun d => match d with
        | .str [x] => .bl (memN x (LL ++ DD))
        | _ => .non]
      · rw [List.map_map]
        rfl
      · intro d hd
        obtain ⟨x, hx, rfl⟩ := List.mem_map.mp hd
        exact ⟨[.frz (.str (c :: t)), .frz (.str [x])], rfl, by kernel_rfl⟩
    have h5 : (eCall allD (aCons (eComp (iSq (eVar 0)) [1] (sName 1) tYesB (e2 inD (eVar 1) (e2 addD (eC c_LETTERS) (eC c_DIGITS)))) aNil)) [.frz (.str (c :: t)), .no] = .ret (.bl ((c :: t).all fun x => memN x (LL ++ DD))) := by
      unfold eCall aCons
      rw [h4]
      show ofO (allD [.lst _]) = _
      simp only [allD]
      rw [allBl_map fun x => memN x (LL ++ DD)]
      simp only [Option.map_some, allT_map]
      rfl
    have hc : (MM.tOr (MM.tNot (MM.tB (e1 (isiD "str") (eVar 0)))) (MM.tOr (MM.tNot (MM.tB (e3 leI leI (eC (.int 1)) (eCall lenD (aCons (eVar 0) aNil)) (eC c_NAME_LENGTH)))) (MM.tB (e2 notInD (e2 ixD (eVar 0) (eC (.int 0))) (eC c_LETTERS))))) [.frz (.str (c :: t)), .no] = .ret (!(decide (t.length < 12) && memN c LL)) := by
      simp only [MM.tOr, MM.tNot, h1, h2, h3, T.bind_ret]
      cases decide (t.length < 12) <;> cases memN c LL <;> rfl
    have hb : b_is_name [.frz (.str (c :: t)), .no] = .ret (.rt (.bl (isN (c :: t)))) := by
      unfold b_is_name
      simp only [sSeq, sIf, hc, T.bind_ret, isN]
      cases hq : (decide (t.length < 12) && memN c LL) with
      | false => simp only [Bool.not_false, if_true, sRet, eC, T.bind_ret, Bool.false_and]
      | true => simp only [Bool.not_true, Bool.false_eq_true, if_false, sNx, T.bind_ret, sRet, h5, Bool.true_and]
    show (b_is_name [.frz (.str (c :: t)), .no]).bind _ = _
    rw [hb]
    rfl

inductive Nm where
  | told
  | circ
  | unr
  | torn
  | late
  | miss
  | lost
  | slow
  | lcau
  | long
  | fork
  | skw
  | skc
deriving DecidableEq
def nc : Nm → List Nat
  | .told => [116, 111, 108, 100, 32, 97, 104, 101, 97, 100]
  | .circ => [99, 105, 114, 99, 108, 101, 32, 111, 102, 32, 119, 114, 105, 116, 101, 115]
  | .unr => [117, 110, 114, 101, 97, 100, 32, 115, 101, 115, 115, 105, 111, 110]
  | .torn => [116, 111, 114, 110, 32, 114, 101, 97, 100, 105, 110, 103]
  | .late => [108, 97, 116, 101, 32, 114, 101, 97, 100, 105, 110, 103]
  | .miss => [109, 105, 115, 115, 101, 100, 32, 99, 97, 117, 115, 101]
  | .lost => [108, 111, 115, 116, 32, 111, 118, 101, 114, 119, 114, 105, 116, 105, 110, 103]
  | .slow => [115, 108, 111, 119, 32, 111, 118, 101, 114, 119, 114, 105, 116, 105, 110, 103]
  | .lcau => [108, 97, 116, 101, 32, 99, 97, 117, 115, 101]
  | .long => [108, 111, 110, 103, 32, 102, 111, 114, 107]
  | .fork => [102, 111, 114, 107, 101, 100, 32, 111, 118, 101, 114, 119, 114, 105, 116, 105, 110, 103]
  | .skw => [115, 107, 101, 119, 101, 100, 32, 119, 114, 105, 116, 105, 110, 103]
  | .skc => [115, 107, 101, 119, 101, 100, 32, 99, 105, 114, 99, 108, 101]

def short : Kd → Nm
  | .s => .unr
  | .t => .late
  | _ => .torn
abbrev Pr := Kd × List Nat
def pd (p : Pr) : D := .tup [kd p.1, .str p.2]
def ksOf (sh : List Pr) : List Kd := sh.map (·.1)
def eqk (sh : List Pr) : Bool := match sh with
  | [p, q] => decide (p.2 = q.2)
  | _ => false
def nmF (ah : List Kd) (two ho eq : Bool) : Nm := match ah with
  | [] => if ho then .circ else .told
  | [a] => if two && isBase a then short a else if !ho then .miss else if two && eq then .lost else if a = .o then .slow else .lcau
  | ah => if ah.all isBase then .long else if !ah.any (fun k => k = .a) then .fork else if two then .skw else .skc
def nmG (ah : List Kd) (two ho eq : Bool) : Nm := match ah with
  | [] => if !ho then .told else .circ
  | [a] => if !ho then (if two then short a else .miss) else if a = .o then (if two && eq then .lost else .slow) else .lcau
  | ah => if ah.any (fun k => k = .a) then (if two then .skw else .skc) else if ah.any (fun k => k = .o) then .fork else .long
def nameF (sh : List Pr) : Nm := nmF (ahead (ksOf sh)) (decide (sh.length = 2)) (hasO (ksOf sh)) (eqk sh)
def nameG (sh : List Pr) : Nm := nmG (ahead (ksOf sh)) (decide (sh.length = 2)) (hasO (ksOf sh)) (eqk sh)
theorem base_all : ∀ l : List Kd, l.all isBase = (!l.any (fun k => k = .a) && !l.any fun k => k = .o)
  | [] => rfl
  | k :: l => by
    rw [List.all_cons, List.any_cons, List.any_cons, base_all l]
    cases k <;> cases l.any (fun k => decide (k = .a)) <;> cases l.any (fun k => decide (k = .o)) <;> rfl
theorem nm_same (ah : List Kd) (ho eq : Bool) : nmF ah false ho eq = nmG ah false ho eq := by
  match ah with
  | [] => cases ho <;> rfl
  | [a] => cases ho <;> cases a <;> rfl
  | a :: b :: r =>
    show (if (a :: b :: r).all isBase then _ else _) = (if (a :: b :: r).any _ then _ else _)
    rw [base_all]
    cases (a :: b :: r).any (fun k => decide (k = .a)) <;> cases (a :: b :: r).any (fun k => decide (k = .o)) <;> rfl
theorem name_same (sh : List Pr) (h : 2 ≤ sh.length) : nameF sh = nameG sh := by
  unfold nameF nameG
  by_cases hn : sh.length = 2
  · match sh, hn with
    | [(k, x), (l, y)], _ =>
      unfold eqk
      cases k <;> cases l <;> cases decide (x = y) <;> rfl
  · rw [decide_eq_false hn]
    exact nm_same _ _ _
/-! ### the kinds of a shape -/
theorem pd0 (p : Pr) : ixD (pd p) (.int 0) = some (kd p.1) := rfl
theorem pd1 (p : Pr) : ixD (pd p) (.int 1) = some (.str p.2) := rfl
theorem zip_of {xs ys : List D} (h1 : xs.length ≤ 16777216) (h2 : ys.length ≤ 16777216) : zipD2 [.lst xs, .lst ys] = some (zipL xs ys) := by
  simp only [zipD2, seqD, Option.bind_some, h1, h2, decide_true, Bool.and_self, if_true]
theorem cat_lst {xs ys : List D} (h : xs.length + ys.length ≤ 16777216) : addD (.lst xs) (.lst ys) = some (.lst (xs ++ ys)) := addD_lst h
def idx (c : Kd) (ks : List Kd) : List Nat := (List.range ks.length).filter fun i => ks[i]?.getD .s = c
theorem range_get (ks : List Kd) : (List.range ks.length).map (fun i => ks[i]?.getD Kd.s) = ks := by
  apply List.ext_getElem
  · simp
  · intro i h1 h2
    simp [h2]
theorem idx_len (c : Kd) (ks : List Kd) : (idx c ks).length = (ks.filter fun k => k = c).length := by
  conv => rhs; rw [← range_get ks, List.filter_map, List.length_map]
  rfl
theorem idx_nil (c : Kd) (ks : List Kd) : (idx c ks).isEmpty = !ks.any fun k => k = c := by
  have h := idx_len c ks
  rw [show (idx c ks).isEmpty = decide ((idx c ks).length = 0) by cases idx c ks <;> simp, h]
  clear h
  induction ks with
  | nil => rfl
  | cons k ks ih =>
    rw [List.filter_cons, List.any_cons]
    cases hk : decide (k = c) with
    | true => simp
    | false => simpa using ih
theorem okNL_ints (f : Nat → Nat) : ∀ xs : List Nat, okNL 63 (xs.map fun x => D.int (f x)) = true
  | [] => rfl
  | x :: xs => by
    show (D.okN 63 (.int (f x)) && _) = true
    rw [okNL_ints f xs]
    rfl
theorem eIf_eq {c : MM.Env → T Bool} {f g : MM.Env → T D} {env : MM.Env} {k : Bool} {x y : D} (h : c env = .ret k) (h1 : f env = .ret x) (h2 : g env = .ret y) : (eIf c f g) env = .ret (if k then x else y) := by
  unfold eIf
  rw [h, T.bind_ret]
  cases k with
  | true => exact h1
  | false => exact h2
end Lk44

namespace Lk44
open PySem PySem.Spec L2 MM

theorem eIf_eq' {c : MM.Env → T Bool} {f g : MM.Env → T D} {env : MM.Env} {k : Bool} {x : D} (h : c env = .ret k) (h1 : k = true → f env = .ret x) (h2 : k = false → g env = .ret x) : (eIf c f g) env = .ret x := by
  unfold eIf
  rw [h, T.bind_ret]
  cases k with
  | true => exact h1 rfl
  | false => exact h2 rfl
theorem heq (n m : Nat) : eqD (.int (n : Nat)) (.int (m : Nat)) = some (.bl (decide (n = m))) := by
  rw [eqD_int]
  congr 2
  apply decide_eq_decide.mpr
  omega
theorem eqD_str (s t : List Nat) : eqD (.str s) (.str t) = some (.bl (decide (s = t))) := by
  show some (D.bl (eqNats s t)) = _
  rw [eqNats_eq]
theorem in_lst (x : Kd) (ks : List Kd) : inD (kd x) (.lst (ks.map kd)) = some (.bl (ks.any fun k => k = x)) := (in_flat (x := kd x) (f := kd) (c := fun k => decide (k = x)) (ss := ks) rfl (fun _ => rfl) (kd_eq x)).2.1
theorem notIn_lst (x : Kd) (ks : List Kd) : notInD (kd x) (.lst (ks.map kd)) = some (.bl (!ks.any fun k => k = x)) := (in_flat (x := kd x) (f := kd) (c := fun k => decide (k = x)) (ss := ks) rfl (fun _ => rfl) (kd_eq x)).1
theorem two_keys {sh : List Pr} (h : 2 ≤ sh.length) : ∃ p q r, sh = p :: q :: r := by
  match sh, h with
  | p :: q :: r, _ => exact ⟨p, q, r, rfl⟩
theorem eqk_two (p q : Pr) (r : List Pr) : (decide ((p :: q :: r).length = 2) && decide (p.2 = q.2)) = (decide ((p :: q :: r).length = 2) && eqk (p :: q :: r)) := by
  cases r with
  | nil => rfl
  | cons _ _ => simp
theorem short_one {sh : List Pr} {a : Kd} (h2 : sh.length = 2) (ha : ahead (ksOf sh) = [a]) (ho : hasO (ksOf sh) = false) : a = .s ∨ a = .t ∨ a = .r := by
  match sh, h2 with
  | [(k, x), (l, y)], _ =>
    cases k <;> cases l <;> first
      | (exfalso; have z : (true : Bool) = false := ho; cases z)
      | (exfalso; revert ha; unfold ksOf; show ([] : List Kd) = [a] → False; intro z; cases z)
      | (exfalso; revert ha; unfold ksOf; show ([.a, .a] : List Kd) = [a] → False; intro z; cases z)
      | (revert ha; unfold ksOf; show ([.s] : List Kd) = [a] → _; intro z; cases z; exact .inl rfl)
      | (revert ha; unfold ksOf; show ([.t] : List Kd) = [a] → _; intro z; cases z; exact .inr (.inl rfl))
      | (revert ha; unfold ksOf; show ([.r] : List Kd) = [a] → _; intro z; cases z; exact .inr (.inr rfl))
theorem ah_nil (ks : List Kd) : (idx .a ks).isEmpty = (ahead ks).isEmpty := by
  have h : (idx .a ks).length = (ahead ks).length := by rw [idx_len, ahead_len]; rfl
  cases h1 : idx .a ks <;> cases h2 : ahead ks <;> simp_all
theorem gname_ok (sh : List Pr) (h2 : 2 ≤ sh.length) (hs : sh.length ≤ 100000) : m__law_shape_name [.tup (sh.map pd)] = .ret (.str (nc (nameG sh))) := by
  have hkl : (ksOf sh).length = sh.length := by simp [ksOf]
  have hA : (idx .a (ksOf sh)).length = (ahead (ksOf sh)).length := by rw [idx_len, ahead_len]; rfl
  have e1 : (eComp (iSq (eVar 0)) [2] (sName 2) tYesB (MM.e2 ixD (eVar 2) (eC (.int 0)))) [.frz (.tup (sh.map pd)), .no, .no, .no, .no, .no, .no] = .ret (.lst ((ksOf sh).map kd)) := by
    refine (eComp_all (xs := sh) (f := pd) (fun p => kd p.1) rfl fun p _ => ⟨[.frz (.tup (sh.map pd)), .no, .frz (pd p), .no, .no, .no, .no], rfl, rfl⟩).trans ?_
    unfold ksOf
    rw [List.map_map]
    rfl
  have ec : ∀ (s : List Nat) (c : Kd) (env : MM.Env), kc c = s → env = [.frz (.tup (sh.map pd)), .frz (.lst ((ksOf sh).map kd)), .no, .no, .no, .no, .no] →
      (eComp (iArg rng1 (aCons (eCall lenD (aCons (eVar 1) aNil)) aNil)) [5] (sName 5) (MM.tB (MM.e2 eqD (MM.e2 ixD (eVar 1) (eVar 5)) (eC (.str s)))) (eVar 5)) env = .ret (.lst ((idx c (ksOf sh)).map fun i : Nat => D.int i)) := by
    intro s c env hc he
    subst hc he
    have hi : (iArg rng1 (aCons (eCall lenD (aCons (eVar 1) aNil)) aNil)) [.frz (.tup (sh.map pd)), .frz (.lst ((ksOf sh).map kd)), .no, .no, .no, .no, .no] = .ret ((List.range (ksOf sh).length).map fun k : Nat => D.int k) := by
      refine (show _ = ofO (rng1 [.int (((ksOf sh).map kd).length : Nat)]) from rfl).trans ?_
      rw [List.length_map, rng1_nat (by rw [hkl]; exact hs)]
      rfl
    refine eComp_eq (xs := List.range (ksOf sh).length) (f := fun k : Nat => D.int k) (fun i => decide ((ksOf sh)[i]?.getD .s = c)) (fun i : Nat => D.int i) hi fun i hi => ⟨[.frz (.tup (sh.map pd)), .frz (.lst ((ksOf sh).map kd)), .no, .no, .no, .frz (.int i), .no], rfl,
      tB_eq (e2_eq (e2_eq (x := .lst ((ksOf sh).map kd)) (y := .int i) rfl rfl (ix_nat (getD_map .s (List.mem_range.mp hi)))) rfl ?_), fun _ => rfl⟩
    show eqD (kd _) (kd c) = _
    rw [show ∀ k, eqD (kd k) (kd c) = some (.bl ((kd k).eqv (kd c))) from fun _ => rfl, kd_eq]
  have e3' : (eComp (iSq (eVar 4)) [5] (sName 5) tYesB (MM.e2 ixD (eVar 1) (MM.e2 subD (eVar 5) (eC (.int 1))))) [.frz (.tup (sh.map pd)), .frz (.lst ((ksOf sh).map kd)), .no, .frz (.lst ((idx .o (ksOf sh)).map fun i : Nat => D.int i)), .frz (.lst ((idx .a (ksOf sh)).map fun i : Nat => D.int i)), .no, .no] =
      .ret (.lst ((ahead (ksOf sh)).map kd)) := by
    refine (eComp_all (xs := idx .a (ksOf sh)) (f := fun i : Nat => D.int i) (fun i => kd ((lastK (ksOf sh) :: ksOf sh)[i]?.getD .s)) rfl fun i hi =>
      ⟨[.frz (.tup (sh.map pd)), .frz (.lst ((ksOf sh).map kd)), .no, .frz (.lst ((idx .o (ksOf sh)).map fun i : Nat => D.int i)), .frz (.lst ((idx .a (ksOf sh)).map fun i : Nat => D.int i)), .frz (.int i), .no], rfl,
        e2_eq (x := .lst ((ksOf sh).map kd)) (y := .int ((i : Nat) - 1)) rfl rfl (ix_prev (List.mem_range.mp (List.mem_filter.mp hi).1))⟩).trans ?_
    rw [← ahead_of (f := kd) (ks := ksOf sh) (fun i => decide ((ksOf sh)[i]?.getD .s = .a)) fun i _ => rfl]
    rfl
  refine run_eq ((seq_eq (set_eq e1 (by show (1 : Nat) < 7; decide))).trans ((seq_eq (par_eq (ec _ .o _ rfl rfl) (ec _ .a _ rfl rfl) rfl)).trans ((seq_eq (own_eq e3' (by show (6 : Nat) < 7; decide))).trans ?_)))
  generalize hE : [Sl.frz (.tup (sh.map pd)), .frz (.lst ((ksOf sh).map kd)), .no, .frz (.lst ((idx .o (ksOf sh)).map fun i : Nat => D.int i)), .frz (.lst ((idx .a (ksOf sh)).map fun i : Nat => D.int i)), .no, .frz (.lst ((ahead (ksOf sh)).map kd))] = env
  have nilA : (MM.tB (MM.e2 eqD (eVar 4) (eLst aNil))) env = .ret (ahead (ksOf sh)).isEmpty := by
    subst hE
    refine tB_eq (e2_eq rfl rfl ((eqD_lists (okNL_ints id _) rfl).trans ?_))
    rw [eqvL_nil, List.isEmpty_map, ah_nil]
  have nilO : (MM.tB (MM.e2 eqD (eVar 3) (eLst aNil))) env = .ret (!hasO (ksOf sh)) := by
    subst hE
    refine tB_eq (e2_eq rfl rfl ((eqD_lists (okNL_ints id _) rfl).trans ?_))
    rw [eqvL_nil, List.isEmpty_map, idx_nil]
    rfl
  have one : (MM.tB (MM.e2 eqD (eCall lenD (aCons (eVar 4) aNil)) (eC (.int 1)))) env = .ret (decide ((ahead (ksOf sh)).length = 1)) := by
    subst hE
    refine tB_eq (e2_eq (call1_eq rfl (show lenD [.lst ((idx .a (ksOf sh)).map fun i : Nat => D.int i)] = some (.int ((ahead (ksOf sh)).length : Nat)) from ?_)) rfl (heq _ 1))
    simp [lenD, hA]
  have two : (MM.tB (MM.e2 eqD (eCall lenD (aCons (eVar 1) aNil)) (eC (.int 2)))) env = .ret (decide (sh.length = 2)) := by
    subst hE
    refine tB_eq (e2_eq (call1_eq rfl (show lenD [.lst ((ksOf sh).map kd)] = some (.int (sh.length : Nat)) from ?_)) rfl (heq _ 2))
    simp [lenD, hkl]
  have any : ∀ c : Kd, (MM.tB (MM.e2 inD (eC (kd c)) (eVar 6))) env = .ret ((ahead (ksOf sh)).any fun k => k = c) := fun c => by
    subst hE
    exact tB_eq (e2_eq (y := .lst ((ahead (ksOf sh)).map kd)) rfl rfl (in_lst c _))
  have keys : (MM.tB (MM.e2 eqD (MM.e2 ixD (MM.e2 ixD (eVar 0) (eC (.int 0))) (eC (.int 1))) (MM.e2 ixD (MM.e2 ixD (eVar 0) (eC (.int 1))) (eC (.int 1))))) env = .ret (match sh with | p :: q :: r => decide (p.2 = q.2) | _ => false) := by
    subst hE
    obtain ⟨p, q, r, rfl⟩ := two_keys h2
    refine tB_eq (e2_eq (x := .str p.2) (y := .str q.2) (e2_eq (x := pd p) (y := .int 1) (e2_eq (x := .tup ((p :: q :: r).map pd)) (y := .int 0) rfl rfl ?_) rfl rfl) (e2_eq (x := pd q) (y := .int 1) (e2_eq (x := .tup ((p :: q :: r).map pd)) (y := .int 1) rfl rfl ?_) rfl rfl) (eqD_str _ _))
    · show (ixN _ (0 : Nat)).bind _ = _
      rw [ixN_nat (by simp)]
      rfl
    · show (ixN _ (1 : Nat)).bind _ = _
      rw [ixN_nat (by simp)]
      rfl
  have eqo : ∀ a, ahead (ksOf sh) = [a] → (MM.tB (MM.e2 eqD (eVar 6) (eLst (aCons (eC (.str [111, 118, 101, 114])) aNil)))) env = .ret (decide (a = .o)) := fun a ha => by
    subst hE
    rw [ha]
    cases a <;> rfl
  have ix6 : ∀ a, ahead (ksOf sh) = [a] → (MM.e2 ixD (eVar 6) (eC (.int 0))) env = .ret (kd a) := fun a ha => by
    subst hE
    rw [ha]
    rfl
  show (sSeq _ _) _ = _
  refine (congrArg _ hE).trans ?_
  unfold nameG
  cases ha : ahead (ksOf sh) with
  | nil =>
    rw [ha] at nilA
    refine stop nilA (ret_eq ((eIf_eq nilO rfl rfl).trans ?_))
    unfold nmG
    cases hasO (ksOf sh) <;> rfl
  | cons a r =>
    rw [ha] at nilA
    refine (skip nilA).trans ?_
    cases r with
    | nil =>
      rw [ha] at one
      have one : (MM.tB (MM.e2 eqD (eCall lenD (aCons (eVar 4) aNil)) (eC (.int 1)))) env = .ret true := one
      cases hO : hasO (ksOf sh) with
      | false =>
        rw [hO] at nilO
        refine stop (tAnd_eq one nilO) (ret_eq (eIf_eq' two (fun z => ?_) fun z => ?_))
        · have z' : sh.length = 2 := of_decide_eq_true z
          rw [z]
          have ix := ix6 a ha
          refine e2_eq rfl ix ?_
          rcases short_one z' ha hO with z | z | z <;> subst z <;> rfl
        · rw [z]
          rfl
      | true =>
        rw [hO] at nilO
        refine (skip (tAnd_eq one nilO)).trans ?_
        by_cases hao : a = .o
        · have eo := eqo a ha
          rw [decide_eq_true hao] at eo
          refine stop (tAnd_eq one eo) (ret_eq ((eIf_eq (tAnd_eq two keys) rfl rfl).trans ?_))
          obtain ⟨p, q, r, rfl⟩ := two_keys h2
          subst hao
          simp only []
          rw [eqk_two]
          unfold nmG
          cases (decide ((p :: q :: r).length = 2) && eqk (p :: q :: r)) <;> rfl
        · have eo := eqo a ha
          rw [decide_eq_false hao] at eo
          refine (skip (tAnd_eq one eo)).trans (stop one (ret_eq ?_))
          unfold nmG
          simp only [Bool.not_true, Bool.false_eq_true, if_false, hao]
          rfl
    | cons b r =>
      rw [ha] at one
      have one : (MM.tB (MM.e2 eqD (eCall lenD (aCons (eVar 4) aNil)) (eC (.int 1)))) env = .ret false := by rw [one]; simp
      have no2 : ∀ t2 : MM.Env → T Bool, (MM.tAnd (MM.tB (MM.e2 eqD (eCall lenD (aCons (eVar 4) aNil)) (eC (.int 1)))) t2) env = .ret false := fun t2 => by
        unfold MM.tAnd
        rw [one, T.bind_ret]
        rfl
      refine (skip (no2 _)).trans ((skip (no2 _)).trans ((skip one).trans ?_))
      have aa := any .a
      have ao := any .o
      rw [ha] at aa ao
      rw [show ∀ two ho eq, nmG (a :: b :: r) two ho eq = if (a :: b :: r).any (fun k => k = .a) then (if two then .skw else .skc) else if (a :: b :: r).any (fun k => k = .o) then .fork else .long from fun _ _ _ => rfl]
      cases hk : (a :: b :: r).any fun k => decide (k = .a) with
      | true =>
        rw [hk] at aa
        refine stop aa (ret_eq ((eIf_eq two rfl rfl).trans ?_))
        cases decide (sh.length = 2) <;> rfl
      | false =>
        rw [hk] at aa
        refine (skip aa).trans (ret_eq ((eIf_eq ao rfl rfl).trans ?_))
        cases (a :: b :: r).any fun k => decide (k = .o) <;> rfl
end Lk44

namespace Lk44
open PySem PySem.Spec L2 MM

theorem first_a : ∀ (ks : List Kd) (p : Kd) (n : Nat) (a : Kd) (r : List Kd), (((p :: ks).zip ks).filter fun q => q.2 = .a).map (·.1) = a :: r → ∃ i, idxS (ks.map kc) (kc .a) n = some (n + i) ∧ i < ks.length ∧ (p :: ks)[i]?.getD .s = a
  | [], p, n, a, r, h => by simp at h
  | k :: ks, p, n, a, r, h => by
    rw [List.zip_cons_cons, List.filter_cons] at h
    by_cases hk : k = .a
    · subst hk
      rw [if_pos (by simp), List.map_cons] at h
      cases h
      exact ⟨0, rfl, by simp, rfl⟩
    · rw [if_neg (by simpa using hk)] at h
      obtain ⟨i, h1, h2, h3⟩ := first_a ks k (n + 1) a r h
      refine ⟨i + 1, ?_, by simp; omega, by simpa using h3⟩
      show (if eqNats (kc k) (kc .a) then some n else idxS (ks.map kc) (kc .a) (n + 1)) = _
      rw [if_neg (by rw [eqNats_eq]; cases k <;> first | exact absurd rfl hk | decide), h1]
      congr 1
      omega
theorem strs_map {α : Type} (f : α → List Nat) : ∀ xs : List α, strsOf (xs.map fun x => D.str (f x)) = some (xs.map f)
  | [] => rfl
  | x :: xs => by simp [strsOf, strs_map f xs]
theorem in_base (a : Kd) : inD (kd a) c_BASE = some (.bl (isBase a)) := by cases a <;> rfl
def keyB (sh : List Pr) : Bool := match sh with | p :: q :: r => decide (p.2 = q.2) | _ => false
theorem eqk_key (sh : List Pr) : (decide (sh.length = 2) && keyB sh) = (decide (sh.length = 2) && eqk sh) := by
  match sh with
  | [] => rfl
  | [_] => rfl
  | [_, _] => rfl
  | _ :: _ :: _ :: _ => simp
theorem keys_at {sh : List Pr} (h2 : 2 ≤ sh.length) {env : MM.Env} (h : env[0]? = some (.frz (.tup (sh.map pd)))) : (MM.tB (MM.e2 eqD (MM.e2 ixD (MM.e2 ixD (eVar 0) (eC (.int 0))) (eC (.int 1))) (MM.e2 ixD (MM.e2 ixD (eVar 0) (eC (.int 1))) (eC (.int 1))))) env = .ret (keyB sh) := by
  obtain ⟨p, q, r, rfl⟩ := two_keys h2
  have hv : (eVar 0) env = .ret (.tup ((p :: q :: r).map pd)) := by unfold eVar; rw [h]
  refine tB_eq (e2_eq (x := .str p.2) (y := .str q.2) (e2_eq (x := pd p) (y := .int 1) (e2_eq (x := .tup ((p :: q :: r).map pd)) (y := .int 0) hv rfl ?_) rfl rfl) (e2_eq (x := pd q) (y := .int 1) (e2_eq (x := .tup ((p :: q :: r).map pd)) (y := .int 1) hv rfl ?_) rfl rfl) (eqD_str _ _))
  · show (ixN _ (0 : Nat)).bind _ = _
    rw [ixN_nat (by simp)]
    rfl
  · show (ixN _ (1 : Nat)).bind _ = _
    rw [ixN_nat (by simp)]
    rfl
theorem one_ok (sh : List Pr) (a : Kd) (h2 : 2 ≤ sh.length) (hs : sh.length ≤ 100000) (ha : ahead (ksOf sh) = [a]) : m_name_with_one [.tup (sh.map pd), .lst ((ksOf sh).map kd)] = .ret (.str (nc (nameF sh))) := by
  have hkl : (ksOf sh).length = sh.length := by simp [ksOf]
  obtain ⟨i, h1, hi, hg⟩ := first_a (ksOf sh) (lastK (ksOf sh)) 0 a [] ha
  rw [Nat.zero_add] at h1
  have e1 : (MM.e2 ixD (eVar 1) (MM.e2 subD (eMeth "list" indexD (eVar 1) (aCons (eC (.str [97, 103, 97, 105, 110])) aNil)) (eC (.int 1)))) [.frz (.tup (sh.map pd)), .frz (.lst ((ksOf sh).map kd)), .no] = .ret (kd a) := by
    refine e2_eq (x := .lst ((ksOf sh).map kd)) (y := .int ((i : Nat) - 1)) rfl (e2_eq (x := .int (i : Nat)) ?_ rfl rfl) ?_
    · have e : (eMeth "list" indexD (eVar 1) (aCons (eC (.str [97, 103, 97, 105, 110])) aNil)) [.frz (.tup (sh.map pd)), .frz (.lst ((ksOf sh).map kd)), .no] = ofO (indexD (.lst ((ksOf sh).map kd)) [.str [97, 103, 97, 105, 110]]) := by kernel_rfl
      rw [e]
      simp only [indexD]
      rw [show (ksOf sh).map kd = (ksOf sh).map (fun k => D.str (kc k)) from rfl, strs_map kc, Option.bind_some, show ([97, 103, 97, 105, 110] : List Nat) = kc .a from rfl, h1]
      rfl
    · have := ix_prev (f := kd) hi
      rw [hg] at this
      exact this
  refine run_eq ((seq_eq (set_eq e1 (by show (2 : Nat) < 3; decide))).trans ?_)
  generalize hE : [Sl.frz (.tup (sh.map pd)), .frz (.lst ((ksOf sh).map kd)), .frz (kd a)] = env
  have two : (MM.tB (MM.e2 eqD (eCall lenD (aCons (eVar 1) aNil)) (eC (.int 2)))) env = .ret (decide (sh.length = 2)) := by
    subst hE
    refine tB_eq (e2_eq (call1_eq rfl (show lenD [.lst ((ksOf sh).map kd)] = some (.int (sh.length : Nat)) from ?_)) rfl (heq _ 2))
    simp [lenD, hkl]
  have base : (MM.tB (MM.e2 inD (eVar 2) (eC c_BASE))) env = .ret (isBase a) := by
    subst hE
    exact tB_eq (e2_eq (x := kd a) rfl rfl (in_base a))
  have over : (MM.tB (MM.e2 notInD (eC (.str [111, 118, 101, 114])) (eVar 1))) env = .ret (!hasO (ksOf sh)) := by
    subst hE
    exact tB_eq (e2_eq (y := .lst ((ksOf sh).map kd)) rfl rfl (notIn_lst .o _))
  have keys := keys_at h2 (env := env) (by subst hE; rfl)
  have isO : (MM.tB (MM.e2 eqD (eVar 2) (eC (.str [111, 118, 101, 114])))) env = .ret (decide (a = .o)) := by
    subst hE
    cases a <;> rfl
  have v2 : (eVar 2) env = .ret (kd a) := by subst hE; rfl
  show (sSeq _ _) _ = _
  refine (congrArg _ hE).trans ?_
  unfold nameF
  rw [ha]
  have c1 := tAnd_eq two base
  rw [show ∀ two ho eq, nmF [a] two ho eq = if two && isBase a then short a else if !ho then .miss else if two && eq then .lost else if a = .o then .slow else .lcau from fun _ _ _ => rfl]
  cases hb : decide (sh.length = 2) && isBase a with
  | true =>
    rw [hb] at c1
    refine stop c1 (ret_eq ?_)
    have ha' : isBase a = true := by
      simp only [Bool.and_eq_true] at hb
      exact hb.2
    unfold MM.e1
    rw [v2]
    cases a <;> first | rfl | cases ha'
  | false =>
    rw [hb] at c1
    refine (skip c1).trans ?_
    cases ho : hasO (ksOf sh) with
    | false =>
      rw [ho] at over
      exact stop over rfl
    | true =>
      rw [ho] at over
      refine (skip over).trans ?_
      have c3 := tAnd_eq two keys
      rw [eqk_key] at c3
      cases hk : decide (sh.length = 2) && eqk sh with
      | true =>
        rw [hk] at c3
        exact stop c3 rfl
      | false =>
        rw [hk] at c3
        refine (skip c3).trans (ret_eq ((eIf_eq isO rfl rfl).trans ?_))
        by_cases hao : a = .o <;> simp [hao] <;> rfl
theorem fname_ok (sh : List Pr) (h2 : 2 ≤ sh.length) (hs : sh.length ≤ 100000) : m_name_in [.tup (sh.map pd)] = .ret (.str (nc (nameF sh))) := by
  have hkl : (ksOf sh).length = sh.length := by simp [ksOf]
  have h0 : ksOf sh ≠ [] := fun z => by rw [z] at hkl; simp at hkl; omega
  have e1 : (eComp (iSq (eVar 0)) [2, 3] (sTup [2, 3]) tYesB (eVar 2)) [.frz (.tup (sh.map pd)), .no, .no, .no, .no, .no] = .ret (.lst ((ksOf sh).map kd)) := by
    refine (eComp_all (xs := sh) (f := pd) (fun p => kd p.1) rfl fun p _ => ⟨[.frz (.tup (sh.map pd)), .no, .frz (kd p.1), .frz (.str p.2), .no, .no], rfl, rfl⟩).trans ?_
    unfold ksOf
    rw [List.map_map]
    rfl
  have hz : (iArg zipD2 (aCons (MM.e2 addD (eCut (eVar 1) (oSo (MM.e1 negD (eC (.int 1)))) oNo) (eVar 1)) (aCons (eVar 1) aNil))) [.frz (.tup (sh.map pd)), .frz (.lst ((ksOf sh).map kd)), .no, .no, .no, .no] = .ret ((cyc (ksOf sh)).map fun p => .tup [kd p.1, kd p.2]) := by
    have hc : cutL ((ksOf sh).map kd) (some (-1)) none = [kd (lastK (ksOf sh))] := by
      rw [cut_last _ (by simpa using h0), List.getLast_map]
      unfold lastK
      rw [List.getLast?_eq_getLast h0]
      rfl
    have a1 : (MM.e2 addD (eCut (eVar 1) (oSo (MM.e1 negD (eC (.int 1)))) oNo) (eVar 1)) [.frz (.tup (sh.map pd)), .frz (.lst ((ksOf sh).map kd)), .no, .no, .no, .no] = .ret (.lst ((lastK (ksOf sh) :: ksOf sh).map kd)) := by
      refine e2_eq (x := .lst (cutL ((ksOf sh).map kd) (some (-1)) none)) (y := .lst ((ksOf sh).map kd)) rfl rfl ?_
      rw [hc, cat_lst (by simp [hkl]; omega)]
      rfl
    unfold iArg
    rw [acons2 a1 (y := .lst ((ksOf sh).map kd)) rfl, T.bind_ret, zip_of (by simp [hkl]; omega) (by simp [hkl]; omega), zipL_map]
    rfl
  have e2' : (eComp (iArg zipD2 (aCons (MM.e2 addD (eCut (eVar 1) (oSo (MM.e1 negD (eC (.int 1)))) oNo) (eVar 1)) (aCons (eVar 1) aNil))) [5, 2] (sTup [5, 2]) (MM.tB (MM.e2 eqD (eVar 2) (eC (.str [97, 103, 97, 105, 110])))) (eVar 5)) [.frz (.tup (sh.map pd)), .frz (.lst ((ksOf sh).map kd)), .no, .no, .no, .no] = .ret (.lst ((ahead (ksOf sh)).map kd)) := by
    refine (eComp_eq (xs := cyc (ksOf sh)) (f := fun p => .tup [kd p.1, kd p.2]) (fun p => decide (p.2 = .a)) (fun p => kd p.1) hz fun p _ => ⟨[.frz (.tup (sh.map pd)), .frz (.lst ((ksOf sh).map kd)), .frz (kd p.2), .no, .no, .frz (kd p.1)], rfl, ?_, fun _ => rfl⟩).trans ?_
    · obtain ⟨k, l⟩ := p
      cases l <;> rfl
    · unfold ahead
      rw [List.map_map]
      rfl
  refine run_eq ((seq_eq (own_eq e1 (by show (1 : Nat) < 6; decide))).trans ?_)
  show (sSeq _ _) [.frz (.tup (sh.map pd)), .frz (.lst ((ksOf sh).map kd)), .no, .no, .no, .no] = _
  refine (seq_eq (own_eq e2' (by show (4 : Nat) < 6; decide))).trans ?_
  generalize hE : [Sl.frz (.tup (sh.map pd)), .frz (.lst ((ksOf sh).map kd)), .no, .no, .frz (.lst ((ahead (ksOf sh)).map kd)), .no] = env
  have nilA : (MM.tB (MM.e2 eqD (eVar 4) (eLst aNil))) env = .ret (ahead (ksOf sh)).isEmpty := by
    subst hE
    refine tB_eq (e2_eq rfl rfl ((eqD_lists (okNL_strs kc _) rfl).trans ?_))
    rw [eqvL_nil, List.isEmpty_map]
  have over : (MM.tB (MM.e2 inD (eC (.str [111, 118, 101, 114])) (eVar 1))) env = .ret (hasO (ksOf sh)) := by
    subst hE
    exact tB_eq (e2_eq (y := .lst ((ksOf sh).map kd)) rfl rfl (in_lst .o _))
  have one : (MM.tB (MM.e2 eqD (eCall lenD (aCons (eVar 4) aNil)) (eC (.int 1)))) env = .ret (decide ((ahead (ksOf sh)).length = 1)) := by
    subst hE
    refine tB_eq (e2_eq (call1_eq rfl (show lenD [.lst ((ahead (ksOf sh)).map kd)] = some (.int ((ahead (ksOf sh)).length : Nat)) from ?_)) rfl (heq _ 1))
    simp [lenD]
  have two : (MM.tB (MM.e2 eqD (eCall lenD (aCons (eVar 1) aNil)) (eC (.int 2)))) env = .ret (decide (sh.length = 2)) := by
    subst hE
    refine tB_eq (e2_eq (call1_eq rfl (show lenD [.lst ((ksOf sh).map kd)] = some (.int (sh.length : Nat)) from ?_)) rfl (heq _ 2))
    simp [lenD, hkl]
  have bases : (MM.tB (eCall allD (aCons (eComp (iSq (eVar 4)) [5] (sName 5) tYesB (MM.e2 inD (eVar 5) (eC c_BASE))) aNil))) env = .ret ((ahead (ksOf sh)).all isBase) := by
    subst hE
    exact tB_eq (call1_eq (eComp_all (xs := ahead (ksOf sh)) (f := kd) (fun k => .bl (isBase k)) rfl fun k _ => ⟨[.frz (.tup (sh.map pd)), .frz (.lst ((ksOf sh).map kd)), .no, .no, .frz (.lst ((ahead (ksOf sh)).map kd)), .frz (kd k)], rfl, e2_eq (x := kd k) rfl rfl (in_base k)⟩) (all_map isBase _))
  have noA : (MM.tB (MM.e2 notInD (eC (.str [97, 103, 97, 105, 110])) (eVar 4))) env = .ret (!(ahead (ksOf sh)).any fun k => k = .a) := by
    subst hE
    exact tB_eq (e2_eq (y := .lst ((ahead (ksOf sh)).map kd)) rfl rfl (notIn_lst .a _))
  have v0 : (eVar 0) env = .ret (.tup (sh.map pd)) := by subst hE; rfl
  have v1 : (eVar 1) env = .ret (.lst ((ksOf sh).map kd)) := by subst hE; rfl
  show (sSeq _ _) _ = _
  refine (congrArg _ hE).trans ?_
  cases ha : ahead (ksOf sh) with
  | nil =>
    rw [ha] at nilA
    refine stop nilA (ret_eq ((eIf_eq over rfl rfl).trans ?_))
    unfold nameF
    rw [ha]
    cases hasO (ksOf sh) <;> rfl
  | cons a r =>
    rw [ha] at nilA
    refine (skip nilA).trans ?_
    cases r with
    | nil =>
      have one' : (MM.tB (MM.e2 eqD (eCall lenD (aCons (eVar 4) aNil)) (eC (.int 1)))) env = .ret true := by rw [one, ha]; rfl
      exact stop one' (ret_eq ((fn2_eq v0 v1).trans (one_ok sh a h2 hs ha)))
    | cons b r =>
      have one' : (MM.tB (MM.e2 eqD (eCall lenD (aCons (eVar 4) aNil)) (eC (.int 1)))) env = .ret false := by rw [one, ha]; simp
      refine (skip one').trans ?_
      unfold nameF
      rw [ha] at bases noA ⊢
      rw [show ∀ two ho eq, nmF (a :: b :: r) two ho eq = if (a :: b :: r).all isBase then .long else if !(a :: b :: r).any (fun k => k = .a) then .fork else if two then .skw else .skc from fun _ _ _ => rfl]
      cases hb : (a :: b :: r).all isBase with
      | true =>
        rw [hb] at bases
        exact stop bases rfl
      | false =>
        rw [hb] at bases
        refine (skip bases).trans ?_
        cases hk : (a :: b :: r).any fun k => decide (k = .a) with
        | false =>
          rw [hk] at noA
          exact stop noA rfl
        | true =>
          rw [hk] at noA
          refine (skip noA).trans (ret_eq ((eIf_eq two rfl rfl).trans ?_))
          cases decide (sh.length = 2) <;> rfl
end Lk44

namespace Lk44
open PySem PySem.Spec L2 MM

/-! ### what fits -/
def noKey : Kd → Bool
  | .s => true
  | .t => true
  | _ => false
def okP1 (p : Pr) : Bool := if noKey p.1 then decide (p.2 = []) else isN p.2
theorem fitp_ok (p : Pr) : m_fits_pair [pd p] = .ret (.bl (okP1 p)) := by
  obtain ⟨k, s⟩ := p
  have hc : (MM.tOr (MM.tNot (MM.tB (eFn 3 m_is_tuple_of (aCons (eVar 0) (aCons (eC (.int 2)) (aCons (eC (.int 2)) aNil)))))) (MM.tOr (MM.tNot (MM.tB (MM.e1 (isiD "str") (MM.e2 ixD (eVar 0) (eC (.int 0)))))) (MM.tB (MM.e2 notInD (MM.e2 ixD (eVar 0) (eC (.int 0))) (eC c_KINDS))))) [.frz (pd (k, s))] = .ret false := by
    cases k <;> kernel_rfl
  have h2 : (MM.tB (MM.e2 inD (MM.e2 ixD (eVar 0) (eC (.int 0))) (eTup (aCons (eC (.str [115, 101, 115, 115, 105, 111, 110])) (aCons (eC (.str [116, 105, 109, 101])) aNil))))) [.frz (pd (k, s))] = .ret (noKey k) := by
    cases k <;> kernel_rfl
  have e1 : (MM.e2 ixD (eVar 0) (eC (.int 1))) [.frz (pd (k, s))] = .ret (.str s) := rfl
  refine run_eq ((skip hc).trans ?_)
  unfold okP1
  cases hk : noKey k with
  | true =>
    rw [hk] at h2
    refine stop h2 (ret_eq ((eAnd_eq (k := true) rfl (e2_eq e1 rfl (eqD_str _ _))).trans ?_))
    rfl
  | false =>
    rw [hk] at h2
    refine (skip h2).trans (ret_eq ((fn1_eq e1).trans ((name_eq s).trans ?_)))
    rfl
theorem gtI_nat (n : Nat) : gtI (.int (n : Nat)) (.int 1) = some (.bl (decide (1 < n))) := by
  show some (D.bl (decide _)) = _
  congr 2
  apply decide_eq_decide.mpr
  omega
theorem fits_ok (sh : List Pr) : m_fits_shape [.tup (sh.map pd)] = .ret (.bl (decide (1 < sh.length) && sh.all okP1)) := by
  refine run_eq (ret_eq ((eAnd_eq (k := true) rfl (eAnd_eq (e2_eq (call1_eq rfl (show lenD [.tup (sh.map pd)] = some (.int (sh.length : Nat)) by simp [lenD])) rfl (gtI_nat _)) (call1_eq (eComp_all (xs := sh) (f := pd) (fun p => .bl (okP1 p)) rfl fun p _ => ⟨[.frz (.tup (sh.map pd)), .frz (pd p)], rfl, (fn1_eq rfl).trans (fitp_ok p)⟩) (all_map okP1 _)))).trans ?_))
  rfl
def okSh (sh : List Pr) : Prop := 2 ≤ sh.length ∧ sh.length ≤ 100000 ∧ sh.all okP1 = true
theorem okSh.fits {sh : List Pr} (h : okSh sh) : m_fits_shape [.tup (sh.map pd)] = .ret (.bl true) := by
  rw [fits_ok, h.2.2, decide_eq_true (show 1 < sh.length from h.1)]
  rfl
theorem okSh.is {sh : List Pr} (h : okSh sh) : m_is_shape [.tup (sh.map pd)] = .ret (.bl true) := run_eq (ret_eq ((fn1_eq rfl).trans h.fits))
theorem okSh.name {sh : List Pr} (h : okSh sh) : m_name_of [.tup (sh.map pd)] = .ret (.str (nc (nameF sh))) :=
  run_eq ((skip (tNot_eq (k := true) (tB_eq ((fn1_eq rfl).trans h.fits)))).trans (ret_eq ((fn1_eq rfl).trans (fname_ok sh h.1 h.2.1))))
/-! ### the conditions -/
def W6 : List Wd := [.at, .ca, .pa, .pr, .sn, .se]
def CN : List (Wd × Bool) := W6.map (fun w => (w, false)) ++ W6.map fun w => (w, true)
def cd (q : Wd × Bool) : D := .str (cc q.1 q.2)
theorem conds_ok : m_conditions [] = .ret (.tup (CN.map cd)) := by kernel_rfl
theorem lconds_ok : m__law_conditions [] = .ret (.lst (CN.map cd)) := by kernel_rfl
theorem in_kinds (k : Kd) : (inD (kd k) c_KINDS) = some (.bl true) := by cases k <;> rfl
theorem are_ok (ks : List Kd) (h : 2 ≤ ks.length) : m_are_kinds [.tup (ks.map kd)] = .ret (.bl true) := by
  have hl : ltD (.int (ks.length : Nat)) (.int 2) = some (.bl false) := by
    simp only [ltD]
    congr 2
    exact decide_eq_false (by omega)
  refine run_eq ((skip (tOr_eq (k := false) (l := false) rfl (tB_eq (e2_eq (call1_eq rfl (show lenD [.tup (ks.map kd)] = some (.int (ks.length : Nat)) by simp [lenD])) rfl hl)))).trans (ret_eq ((call1_eq (eComp_all (xs := ks) (f := kd) (fun k => .bl ((fun _ => true) k)) rfl fun k _ =>
    ⟨[.frz (.tup (ks.map kd)), .frz (kd k)], rfl, eAnd_eq (k := true) (l := true) rfl (e2_eq (x := kd k) rfl rfl (in_kinds k))⟩) (all_map (fun _ => true) _)).trans ?_)))
  simp
theorem tup_ok {f1 : MM.Env → T D} {env : MM.Env} {xs : List D} (h : f1 env = .ret (.lst xs)) : (eCall tupleD (aCons f1 aNil)) env = .ret (.tup xs) := call1_eq h rfl
theorem forbidding_ok (ks : List Kd) (h : 2 ≤ ks.length) (hs : ks.length ≤ 100000) : m_forbidding [.tup (ks.map kd)] = .ret (.tup ((CN.filter fun q => forbB q.1 q.2 ks).map cd)) := by
  have h0 : ks ≠ [] := fun z => by rw [z] at h; simp at h
  refine run_eq ((skip (tNot_eq (k := true) (tB_eq ((fn1_eq rfl).trans (are_ok ks h))))).trans (ret_eq (tup_ok (eComp_eq (xs := CN) (f := cd) (fun q => forbB q.1 q.2 ks) cd ?_ fun q _ => ⟨[.frz (.tup (ks.map kd)), .frz (cd q)], rfl, tB_eq ((fn2_eq rfl rfl).trans (forb_ok q.1 q.2 ks h0 hs)), fun _ => rfl⟩))))
  kernel_rfl
def stB : Nm → Wd → Bool
  | .told, _ => true
  | .circ, _ => true
  | .unr, _ => true
  | .torn, _ => true
  | .late, _ => true
  | .miss, w => w ≠ .at
  | .lost, w => w = .pa || w = .sn || w = .se
  | .slow, w => w = .pa || w = .sn || w = .se
  | .lcau, w => w = .pa || w = .pr || w = .sn || w = .se
  | .long, w => w = .pr || w = .sn || w = .se
  | .fork, w => w = .sn || w = .se
  | .skw, w => w = .se
  | .skc, w => w = .se
theorem against_ok (n : Nm) : m_against [.str (nc n)] = .ret (.tup ((CN.filter fun q => q.2 && stB n q.1).map cd)) := by cases n <;> kernel_rfl
/-! ### what the strict conditions forbid is what the name says -/
theorem dbl_two : ∀ ks : List Kd, (pairs ks).any dbl = true → 2 ≤ cnt ks
  | [], h => by simp [pairs] at h
  | [_], h => by simp [pairs] at h
  | k :: l :: r, h => by
    rw [show pairs (k :: l :: r) = (k, l) :: pairs (l :: r) from rfl, List.any_cons] at h
    have e : cnt (k :: l :: r) = cnt [k] + cnt (l :: r) := by
      unfold cnt
      rw [show k :: l :: r = [k] ++ (l :: r) from rfl, List.filter_append, List.length_append]
    cases hd : dbl (k, l) with
    | true =>
      simp only [dbl, Bool.and_eq_true, decide_eq_true_eq] at hd
      obtain ⟨rfl, rfl⟩ := hd
      rw [show cnt (.a :: .a :: r) = cnt r + 2 by simp [cnt]]
      omega
    | false =>
      rw [hd, Bool.false_or] at h
      have := dbl_two (l :: r) h
      omega
theorem one_not_a {ks : List Kd} {x : Kd} (h : 2 ≤ ks.length) (ha : ahead ks = [x]) : x ≠ .a ∧ (x = .o → hasO ks = true) := by
  have hl : cnt ks = 1 := by rw [← ahead_len, ha]; rfl
  constructor
  · intro hx
    have : (ahead ks).any (fun k => k = .a) = true := by rw [ha, hx]; rfl
    rw [any_ahead] at this
    obtain ⟨f, m, l, rfl⟩ := two_split h
    have hla : lastK (f :: m ++ [l]) = l := by
      unfold lastK
      rw [List.getLast?_append]
      rfl
    rw [show cyc (f :: m ++ [l]) = (l, f) :: pairs (f :: m ++ [l]) by rw [List.cons_append, cyc_cons, ← List.cons_append, hla], List.any_cons, Bool.or_eq_true] at this
    have e : ∀ p : Kd × Kd, dbl p = (decide (p.2 = .a) && decide (p.1 = .a)) := fun p => by unfold dbl; rw [Bool.and_comm]
    rcases this with q | q
    · simp only [Bool.and_eq_true, decide_eq_true_eq] at q
      obtain ⟨rfl, rfl⟩ := q
      have : cnt (Kd.a :: m ++ [Kd.a]) = cnt m + 2 := by
        unfold cnt
        rw [List.cons_append, List.filter_cons, if_pos (by simp), List.filter_append]
        simp
      omega
    · have := dbl_two _ (by rw [show dbl = (fun p : Kd × Kd => decide (p.2 = .a) && decide (p.1 = .a)) from funext e]; exact q)
      omega
  · intro hx
    have hm : x ∈ ahead ks := by rw [ha]; exact List.mem_singleton.mpr rfl
    unfold ahead at hm
    obtain ⟨p, hp, rfl⟩ := List.mem_map.mp hm
    have hc := (List.mem_filter.mp hp).1
    have h1 := (List.of_mem_zip (a := p.1) (b := p.2) hc).1
    have : p.1 ∈ ks := by
      rcases List.mem_cons.mp h1 with z | z
      · rw [z]
        have h0 : ks ≠ [] := fun z => by rw [z] at h; simp at h
        unfold lastK
        rw [List.getLast?_eq_getLast h0]
        exact List.getLast_mem h0
      · exact z
    unfold hasO
    exact List.any_eq_true.mpr ⟨p.1, this, by simpa using hx⟩
theorem two_over {sh : List Pr} {a : Kd} (h2 : sh.length = 2) (ha : ahead (ksOf sh) = [a]) (ho : hasO (ksOf sh) = true) : a = .o := by
  match sh, h2 with
  | [(k, x), (l, y)], _ =>
    cases k <;> cases l <;> first
      | (exfalso; have z : (false : Bool) = true := ho; cases z)
      | (exfalso; revert ha; unfold ksOf; show ([] : List Kd) = [a] → False; intro z; cases z)
      | (revert ha; unfold ksOf; show ([.o] : List Kd) = [a] → _; intro z; cases z; rfl)
theorem strict_same (sh : List Pr) (h : 2 ≤ sh.length) (w : Wd) : lforbB w true (ksOf sh) = stB (nameG sh) w := by
  have hkl : (ksOf sh).length = sh.length := by simp [ksOf]
  unfold lforbB nameG
  rw [show (hasT (ksOf sh) && !true) = false by simp, if_neg (by simp), hkl]
  cases ha : ahead (ksOf sh) with
  | nil =>
    rw [show ∀ two ho eq, nmG [] two ho eq = if !ho then .told else .circ from fun _ _ _ => rfl]
    cases hasO (ksOf sh) <;> cases w <;> rfl
  | cons a r =>
    cases r with
    | nil =>
      obtain ⟨n1, n2⟩ := one_not_a (by rw [hkl]; exact h) ha
      rw [show ∀ two ho eq, nmG [a] two ho eq = if !ho then (if two then short a else .miss) else if a = .o then (if two && eq then .lost else .slow) else .lcau from fun _ _ _ => rfl]
      cases ho : hasO (ksOf sh) with
      | false =>
        have hb : isBase a = true := by
          cases a <;> first | rfl | exact absurd rfl n1 | (have := n2 rfl; rw [ho] at this; cases this)
        by_cases h2 : sh.length = 2
        · rw [decide_eq_true h2]
          rcases short_one h2 ha ho with z | z | z <;> subst z <;> cases w <;> rfl
        · rw [decide_eq_false h2]
          cases w <;> simp [hb, stB]
          exact n1
      | true =>
        by_cases hao : a = .o
        · subst hao
          generalize decide (sh.length = 2) = tw
          generalize eqk sh = ek
          cases w <;> cases tw <;> cases ek <;> rfl
        · have hb : isBase a = true := by
            cases a <;> first | rfl | exact absurd rfl n1 | exact absurd rfl hao
          have h2 : sh.length ≠ 2 := fun z => hao (two_over z ha ho)
          rw [decide_eq_false h2]
          cases w <;> simp [hb, stB, hao, n1]
    | cons b r =>
      rw [show ∀ two ho eq, nmG (a :: b :: r) two ho eq = if (a :: b :: r).any (fun k => k = .a) then (if two then .skw else .skc) else if (a :: b :: r).any (fun k => k = .o) then .fork else .long from fun _ _ _ => rfl]
      cases w
      · simp only [List.isEmpty_cons, Bool.false_or, Bool.and_false]
        cases (a :: b :: r).any fun k => decide (k = .a) <;> cases (a :: b :: r).any fun k => decide (k = .o) <;> cases decide (sh.length = 2) <;> rfl
      · simp only [List.isEmpty_cons, Bool.false_or, List.length_cons]
        rw [show decide (r.length + 1 + 1 = 1) = false by simp]
        cases (a :: b :: r).any fun k => decide (k = .a) <;> cases (a :: b :: r).any fun k => decide (k = .o) <;> cases decide (sh.length = 2) <;> rfl
      · simp only [List.length_cons]
        rw [show decide (r.length + 1 + 1 < 2) = false by simp]
        cases (a :: b :: r).any fun k => decide (k = .a) <;> cases (a :: b :: r).any fun k => decide (k = .o) <;> cases decide (sh.length = 2) <;> rfl
      · simp only [base_all]
        cases (a :: b :: r).any fun k => decide (k = .a) <;> cases (a :: b :: r).any fun k => decide (k = .o) <;> cases decide (sh.length = 2) <;> rfl
      · simp only []
        cases (a :: b :: r).any fun k => decide (k = .a) <;> cases (a :: b :: r).any fun k => decide (k = .o) <;> cases decide (sh.length = 2) <;> rfl
      · simp only []
        cases (a :: b :: r).any fun k => decide (k = .a) <;> cases (a :: b :: r).any fun k => decide (k = .o) <;> cases decide (sh.length = 2) <;> rfl
end Lk44

namespace Lk44
open PySem PySem.Spec L2 MM

theorem okNL_str {α : Type} (f : α → List Nat) (n : Nat) : ∀ xs : List α, okNL n (xs.map fun x => D.str (f x)) = true
  | [] => by simp [okNL]
  | x :: xs => by simp [okNL, D.okN, okNL_str f n xs]
theorem likeL_str {α : Type} (f : α → List Nat) : ∀ xs : List α, likeL (xs.map fun x => D.str (f x)) (xs.map fun x => D.str (f x)) = true
  | [] => rfl
  | x :: xs => by
    show (likeB (.str (f x)) (.str (f x)) && _) = true
    rw [likeL_str f xs, show likeB (.str (f x)) (.str (f x)) = eqNats (f x) (f x) from rfl, eqNats_eq]
    simp
theorem like_tup {α : Type} (f : α → List Nat) (xs : List α) : r_like 8 [.tup (xs.map fun x => D.str (f x)), .tup (xs.map fun x => D.str (f x))] = .ret (.bl true) := by
  rw [like_eq 7 (by show okNL 6 _ = true; exact okNL_str f 6 xs) (by show okNL 6 _ = true; exact okNL_str f 6 xs)]
  rw [show likeB (.tup (xs.map fun x => D.str (f x))) (.tup (xs.map fun x => D.str (f x))) = likeL (xs.map fun x => D.str (f x)) (xs.map fun x => D.str (f x)) from rfl, likeL_str]
theorem like_strs (s : List Nat) : r_like 8 [.str s, .str s] = .ret (.bl true) := by
  rw [like_eq 7 rfl rfl, show likeB (.str s) (.str s) = eqNats s s from rfl, eqNats_eq]
  simp
theorem eqvL_str {α : Type} (f : α → List Nat) : ∀ xs : List α, eqvL (xs.map fun x => D.str (f x)) (xs.map fun x => D.str (f x)) = true
  | [] => rfl
  | x :: xs => by
    show (eqNats (f x) (f x) && _) = true
    rw [eqvL_str f xs, eqNats_eq]
    simp
theorem in_strict (q : Wd × Bool) : inD (.str [115, 116, 114, 105, 99, 116]) (cd q) = some (.bl q.2) := by
  obtain ⟨w, b⟩ := q
  cases w <;> cases b <;> rfl
theorem lforb_time (w : Wd) (ks : List Kd) : lforbB w false ks = (!hasT ks && lforbB w true ks) := by
  unfold lforbB
  cases hasT ks <;> rfl
theorem due_time {ks : List Kd} (h : hasT ks = true) : (CN.filter fun q => lforbB q.1 q.2 ks) = CN.filter fun q => lforbB q.1 q.2 ks && q.2 := by
  refine List.filter_congr fun q hq => ?_
  obtain ⟨w, b⟩ := q
  cases b with
  | true => simp
  | false => simp [lforb_time, h]
theorem due_len {ks : List Kd} (h : hasT ks = false) : (CN.filter fun q => lforbB q.1 q.2 ks).length = 2 * (CN.filter fun q => lforbB q.1 q.2 ks && q.2).length := by
  have e : (CN.filter fun q => lforbB q.1 q.2 ks) = (W6.filter fun w => lforbB w true ks).map (fun w => (w, false)) ++ (W6.filter fun w => lforbB w true ks).map (fun w => (w, true)) := by
    unfold CN
    rw [List.filter_append, List.filter_map, List.filter_map]
    congr 1
    · congr 1
      exact List.filter_congr fun w _ => by simp [lforb_time, h]
  have e2 : (CN.filter fun q => lforbB q.1 q.2 ks && q.2) = (W6.filter fun w => lforbB w true ks).map (fun w => (w, true)) := by
    unfold CN
    rw [List.filter_append, List.filter_map, List.filter_map]
    have : (W6.filter ((fun q => lforbB q.1 q.2 ks && q.2) ∘ fun w => (w, false))) = [] := List.filter_eq_nil_iff.mpr fun w _ => by simp
    rw [this, List.map_nil, List.nil_append]
    congr 1
    exact List.filter_congr fun w _ => by simp
  rw [e, e2, List.length_append, List.length_map, List.length_map]
  omega
theorem mul2 (n : Nat) : mulD (.int 2) (.int (n : Nat)) = some (.int ((2 * n : Nat) : Int)) := by
  simp only [mulD]
  rw [if_pos (by unfold MM.small64; simp)]
  congr 2
theorem told_ok {sh : List Pr} (h : okSh sh) : m__law_told [.tup (sh.map pd)] = .ret (.bl true) := by
  have hkl : (ksOf sh).length = sh.length := by simp [ksOf]
  have k2 : 2 ≤ (ksOf sh).length := by rw [hkl]; exact h.1
  have ks' : (ksOf sh).length ≤ 100000 := by rw [hkl]; exact h.2.1
  have g1 : (eFn 1 m__law_shape_name (aCons (eVar 0) aNil)) [.frz (.tup (sh.map pd)), .no, .no, .no, .no, .no, .no] = .ret (.str (nc (nameG sh))) := (fn1_eq rfl).trans (gname_ok sh h.1 h.2.1)
  have g2 : (eCall tupleD (aCons (eComp (iSq (eVar 0)) [3] (sName 3) tYesB (MM.e2 ixD (eVar 3) (eC (.int 0)))) aNil)) [.frz (.tup (sh.map pd)), .no, .no, .no, .no, .no, .no] = .ret (.tup ((ksOf sh).map kd)) := by
    refine tup_ok ((eComp_all (xs := sh) (f := pd) (fun p => kd p.1) rfl fun p _ => ⟨[.frz (.tup (sh.map pd)), .no, .no, .frz (pd p), .no, .no, .no], rfl, rfl⟩).trans ?_)
    unfold ksOf
    rw [List.map_map]
    rfl
  have s0 : (sAsg (sTup [1, 2]) (eTup (aCons (eFn 1 m__law_shape_name (aCons (eVar 0) aNil)) (aCons (eCall tupleD (aCons (eComp (iSq (eVar 0)) [3] (sName 3) tYesB (MM.e2 ixD (eVar 3) (eC (.int 0)))) aNil)) aNil)))) [.frz (.tup (sh.map pd)), .no, .no, .no, .no, .no, .no] =
      .ret (.nx [.frz (.tup (sh.map pd)), .frz (.str (nc (nameG sh))), .frz (.tup ((ksOf sh).map kd)), .no, .no, .no, .no]) := by
    unfold sAsg eTup
    rw [acons2 g1 g2]
    rfl
  have c1 : (MM.tOr (MM.tB (MM.e2 notBD (eFn 1 m_is_shape (aCons (eVar 0) aNil)) (eC (.bl true)))) (MM.tNot (MM.tB (eFn 2 (r_like 8) (aCons (eFn 1 m_name_of (aCons (eVar 0) aNil)) (aCons (eVar 1) aNil)))))) [.frz (.tup (sh.map pd)), .frz (.str (nc (nameG sh))), .frz (.tup ((ksOf sh).map kd)), .no, .no, .no, .no] = .ret false := by
    refine tOr_eq (k := false) (l := false) (tB_eq (e2_eq ((fn1_eq rfl).trans h.is) rfl rfl)) (tNot_eq (k := true) (tB_eq ((fn2_eq ((fn1_eq rfl).trans h.name) rfl).trans ?_)))
    rw [name_same sh h.1]
    exact like_strs _
  have d1 : (eComp (iSq (eFn 0 m__law_conditions aNil)) [5] (sName 5) (MM.tB (eFn 2 m__law_forbids (aCons (eVar 5) (aCons (eVar 2) aNil)))) (eVar 5)) [.frz (.tup (sh.map pd)), .frz (.str (nc (nameG sh))), .frz (.tup ((ksOf sh).map kd)), .no, .no, .no, .no] =
      .ret (.lst ((CN.filter fun q => lforbB q.1 q.2 (ksOf sh)).map cd)) := by
    refine eComp_eq (xs := CN) (f := cd) (fun q => lforbB q.1 q.2 (ksOf sh)) cd ?_ fun q _ => ⟨[.frz (.tup (sh.map pd)), .frz (.str (nc (nameG sh))), .frz (.tup ((ksOf sh).map kd)), .no, .no, .frz (cd q), .no], rfl, tB_eq ((fn2_eq rfl rfl).trans (lforb_ok q.1 q.2 _ ks')), fun _ => rfl⟩
    kernel_rfl
  have d2 : (eComp (iSq (eFn 0 m__law_conditions aNil)) [5] (sName 5) (MM.tAnd (MM.tB (eFn 2 m__law_forbids (aCons (eVar 5) (aCons (eVar 2) aNil)))) (MM.tB (MM.e2 inD (eC (.str [115, 116, 114, 105, 99, 116])) (eVar 5)))) (eVar 5)) [.frz (.tup (sh.map pd)), .frz (.str (nc (nameG sh))), .frz (.tup ((ksOf sh).map kd)), .no, .frz (.lst ((CN.filter fun q => lforbB q.1 q.2 (ksOf sh)).map cd)), .no, .no] =
      .ret (.lst ((CN.filter fun q => lforbB q.1 q.2 (ksOf sh) && q.2).map cd)) := by
    refine eComp_eq (xs := CN) (f := cd) (fun q => lforbB q.1 q.2 (ksOf sh) && q.2) cd ?_ fun q _ => ⟨[.frz (.tup (sh.map pd)), .frz (.str (nc (nameG sh))), .frz (.tup ((ksOf sh).map kd)), .no, .frz (.lst ((CN.filter fun q => lforbB q.1 q.2 (ksOf sh)).map cd)), .frz (cd q), .no], rfl,
      tAnd_eq (tB_eq ((fn2_eq rfl rfl).trans (lforb_ok q.1 q.2 _ ks'))) (tB_eq (e2_eq (y := cd q) rfl rfl (in_strict q))), fun _ => rfl⟩
    kernel_rfl
  refine run_eq ((seq_eq s0).trans ((skip c1).trans ((seq_eq (own_eq d1 (by show (4 : Nat) < 7; decide))).trans ?_)))
  show (sSeq _ _) [.frz (.tup (sh.map pd)), .frz (.str (nc (nameG sh))), .frz (.tup ((ksOf sh).map kd)), .no, .frz (.lst ((CN.filter fun q => lforbB q.1 q.2 (ksOf sh)).map cd)), .no, .no] = _
  refine (seq_eq (own_eq d2 (by show (6 : Nat) < 7; decide))).trans ?_
  generalize hE : [Sl.frz (.tup (sh.map pd)), .frz (.str (nc (nameG sh))), .frz (.tup ((ksOf sh).map kd)), .no, .frz (.lst ((CN.filter fun q => lforbB q.1 q.2 (ksOf sh)).map cd)), .no, .frz (.lst ((CN.filter fun q => lforbB q.1 q.2 (ksOf sh) && q.2).map cd))] = env
  have v1 : (eVar 1) env = .ret (.str (nc (nameG sh))) := by subst hE; rfl
  have v2 : (eVar 2) env = .ret (.tup ((ksOf sh).map kd)) := by subst hE; rfl
  have v4 : (eVar 4) env = .ret (.lst ((CN.filter fun q => lforbB q.1 q.2 (ksOf sh)).map cd)) := by subst hE; rfl
  have v6 : (eVar 6) env = .ret (.lst ((CN.filter fun q => lforbB q.1 q.2 (ksOf sh) && q.2).map cd)) := by subst hE; rfl
  show (sSeq _ _) _ = _
  refine (congrArg _ hE).trans ?_
  have f1 : (CN.filter fun q => forbB q.1 q.2 (ksOf sh)) = CN.filter fun q => lforbB q.1 q.2 (ksOf sh) := List.filter_congr fun q _ => forb_same _ _ _ k2
  have f2 : (CN.filter fun q => q.2 && stB (nameG sh) q.1) = CN.filter fun q => lforbB q.1 q.2 (ksOf sh) && q.2 := List.filter_congr fun q _ => by
    obtain ⟨w, b⟩ := q
    cases b with
    | false => simp
    | true => simp [strict_same sh h.1 w]
  have l1 : (MM.tB (eFn 2 (r_like 8) (aCons (eFn 1 m_forbidding (aCons (eVar 2) aNil)) (aCons (eCall tupleD (aCons (eVar 4) aNil)) aNil)))) env = .ret true := by
    refine tB_eq ((fn2_eq ((fn1_eq v2).trans (forbidding_ok _ k2 ks')) (tup_ok v4)).trans ?_)
    rw [f1]
    exact like_tup (fun q : Wd × Bool => cc q.1 q.2) _
  have l2 : (MM.tB (eFn 2 (r_like 8) (aCons (eFn 1 m_against (aCons (eVar 1) aNil)) (aCons (eCall tupleD (aCons (eVar 6) aNil)) aNil)))) env = .ret true := by
    refine tB_eq ((fn2_eq ((fn1_eq v1).trans (against_ok _)) (tup_ok v6)).trans ?_)
    rw [f2]
    exact like_tup (fun q : Wd × Bool => cc q.1 q.2) _
  refine (skip (tOr_eq (tNot_eq l1) (tNot_eq l2))).trans (ret_eq ?_)
  have t1 : (MM.e2 inD (eC (.str [116, 105, 109, 101])) (eVar 2)) env = .ret (.bl (hasT (ksOf sh))) := e2_eq (y := .tup ((ksOf sh).map kd)) rfl v2 (in_kd .t _)
  have t2 : (MM.e2 notInD (eC (.str [116, 105, 109, 101])) (eVar 2)) env = .ret (.bl (!hasT (ksOf sh))) := e2_eq (y := .tup ((ksOf sh).map kd)) rfl v2 (in_flat (x := kd .t) (f := kd) (c := fun k => decide (k = .t)) (ss := ksOf sh) rfl (fun _ => rfl) (kd_eq .t)).2.2.2
  cases hT : hasT (ksOf sh) with
  | true =>
    rw [hT] at t1
    have q : (MM.e2 eqD (eVar 4) (eVar 6)) env = .ret (.bl true) := by
      refine e2_eq v4 v6 ?_
      rw [due_time hT]
      refine (eqD_lists (okNL_strs (fun q : Wd × Bool => cc q.1 q.2) _) (okNL_strs (fun q : Wd × Bool => cc q.1 q.2) _)).trans ?_
      rw [eqvL_str (fun q : Wd × Bool => cc q.1 q.2)]
    unfold eOr
    rw [eAnd_eq t1 q]
    rfl
  | false =>
    rw [hT] at t1 t2
    have q : (MM.e2 eqD (eCall lenD (aCons (eVar 4) aNil)) (MM.e2 mulD (eC (.int 2)) (eCall lenD (aCons (eVar 6) aNil)))) env = .ret (.bl true) := by
      refine e2_eq (x := .int ((CN.filter fun q => lforbB q.1 q.2 (ksOf sh)).length : Nat)) (y := .int ((2 * (CN.filter fun q => lforbB q.1 q.2 (ksOf sh) && q.2).length : Nat) : Int)) (call1_eq v4 (by simp [lenD])) (e2_eq (y := .int ((CN.filter fun q => lforbB q.1 q.2 (ksOf sh) && q.2).length : Nat)) rfl (call1_eq v6 (by simp [lenD])) ?_) ?_
      · exact mul2 _
      · rw [heq, due_len hT]
        simp
    unfold eOr
    have z : (eAnd (MM.e2 inD (eC (.str [116, 105, 109, 101])) (eVar 2)) (MM.e2 eqD (eVar 4) (eVar 6))) env = .ret (.bl false) := by
      unfold eAnd
      rw [t1]
      rfl
    rw [z]
    show (eAnd _ _) env = _
    rw [eAnd_eq t2 q]
    rfl
end Lk44

namespace Lk44
open PySem PySem.Spec L2 MM

theorem noX_of {α : Type} {Q : α → Prop} {E : MM.Ex → Prop} : ∀ {t : T α}, t.wp Q (fun _ => False) → t.noX.wp Q E
  | .ret a, h => h
  | .exc _, h => False.elim h
  | .bad, h => h
  | .draw n k, h => ⟨h.1, fun i hi => noX_of (h.2 i hi)⟩
theorem eComp_wp {α : Type} {it : MM.Env → T (List D)} {vs : List Nat} {tgt : D → MM.Env → Option MM.Env} {elt : MM.Env → T D} {env : MM.Env} {xs : List α} {f : α → D} {E : MM.Ex → Prop} {Q : D → Prop} (R : α → D → Prop)
    (h0 : it env = .ret (xs.map f)) (h : ∀ x ∈ xs, ∃ e, tgt (f x) (wipeE env vs) = some e ∧ (elt e).wp (R x) fun _ => False) (hq : ∀ ys, Paired R xs ys → Q (.lst ys)) : (eComp it vs tgt tYesB elt env).wp Q E := by
  have : ∀ (xs : List α) (Q : List D → Prop), (∀ x ∈ xs, ∃ e, tgt (f x) (wipeE env vs) = some e ∧ (elt e).wp (R x) fun _ => False) → (∀ ys, Paired R xs ys → Q ys) → (compL tgt tYesB elt (wipeE env vs) (xs.map f)).wp Q E := by
    intro xs
    induction xs with
    | nil => exact fun Q _ hq => hq [] .nil
    | cons x xs ih =>
      intro Q h hq
      obtain ⟨e, h1, h2⟩ := h x List.mem_cons_self
      simp only [List.map_cons, compL, h1, ofO_some, T.bind_ret]
      rw [show (tYesB e) = T.ret true from rfl, T.noX_ret, T.bind_ret, if_pos rfl, T.wp_bind]
      refine T.wp_mono (fun y hy => ?_) (fun _ z => z) (noX_of h2)
      rw [T.wp_bind]
      exact ih _ (fun x' hx' => h x' (List.mem_cons_of_mem _ hx')) fun ys hys => hq (y :: ys) (.cons hy hys)
  unfold eComp
  rw [h0, T.bind_ret, T.wp_bind]
  exact this xs _ h hq
/-! ### a name is drawn -/
def IsN (d : D) : Prop := ∃ s, d = .str s ∧ isN s = true
theorem isN_mk {c : Nat} {t : List Nat} (hc : c ∈ LL) (ht : ∀ x ∈ t, x ∈ LL ++ DD) (hl : t.length < 12) : isN (c :: t) = true := by
  simp only [isN, Bool.and_eq_true, decide_eq_true_eq, memN_eq, List.all_eq_true]
  refine ⟨⟨hl, hc⟩, fun x hx => ?_⟩
  rcases List.mem_cons.mp hx with rfl | z
  · exact List.mem_append_left _ hc
  · exact ht x z
def EN (tk : List (List Nat)) (a b c d : Sl) : MM.Env := [.frz .cup, .frz (.lst (tk.map D.str)), .frz (.str LL), .frz (.str DD), a, b, c, d]
theorem notIn_strs (s : List Nat) (tk : List (List Nat)) : notInD (.str s) (.lst (tk.map D.str)) = some (.bl (!tk.any fun t => t = s)) :=
  (in_flat (x := .str s) (f := D.str) (c := fun t => decide (t = s)) (ss := tk) rfl (fun _ => rfl) fun t => by show eqNats t s = _; rw [eqNats_eq]).1
@[irreducible] def NS : List (List Nat) := (List.range 70).map fun k => 110 :: decS k
theorem NS_names : ∀ s ∈ NS, isN s = true := by decide +kernel
theorem three_two {α : Type} {a b c : α} (hab : a ≠ b) (hac : a ≠ c) (hbc : b ≠ c) : ∀ tk : List α, tk.length ≤ 2 → a ∈ tk → b ∈ tk → c ∈ tk → False
  | [], _, ha, _, _ => by cases ha
  | [x], _, ha, hb, _ => by
    rw [List.mem_singleton] at ha hb
    exact hab (ha.trans hb.symm)
  | [x, y], _, ha, hb, hc => by
    simp only [List.mem_cons, List.not_mem_nil, or_false] at ha hb hc
    rcases ha with p | p <;> rcases hb with q | q <;> rcases hc with r | r <;> first | exact hab (p.trans q.symm) | exact hac (p.trans r.symm) | exact hbc (q.trans r.symm)
  | _ :: _ :: _ :: _, h, _, _, _ => by simp at h
theorem fresh_name (tk : List (List Nat)) (ht : tk.length ≤ 2) : ∃ s r, (NS.filter fun s => !tk.any fun u => u = s) = s :: r := by
  cases hf : NS.filter fun s => !tk.any fun u => u = s with
  | cons s r => exact ⟨s, r, rfl⟩
  | nil =>
    exfalso
    have all := List.filter_eq_nil_iff.mp hf
    have m : ∀ s ∈ NS, s ∈ tk := fun s hs => by
      have := all s hs
      simp only [Bool.not_eq_true', Bool.not_eq_false] at this
      obtain ⟨u, hu, e⟩ := List.any_eq_true.mp this
      rw [← of_decide_eq_true e]
      exact hu
    exact three_two (a := [110, 48]) (b := [110, 49]) (c := [110, 50]) (by decide) (by decide) (by decide) tk ht (m _ (by decide +kernel)) (m _ (by decide +kernel)) (m _ (by decide +kernel))
theorem fresh_ix (tk : List (List Nat)) (ht : tk.length ≤ 2) : ∃ s, isN s = true ∧ ixD (.lst ((NS.filter fun s => !tk.any fun u => u = s).map D.str)) (.int 0) = some (.str s) := by
  have h := fresh_name tk ht
  have hn := NS_names
  generalize NS = L at h hn
  obtain ⟨s, r, hs⟩ := h
  refine ⟨s, hn s ?_, ?_⟩
  · have : s ∈ L.filter fun s => !tk.any fun u => u = s := by rw [hs]; exact List.mem_cons_self
    exact (List.mem_filter.mp this).1
  · rw [hs]
    exact ix_nat (i := 0) rfl
theorem tail_eq (tk : List (List Nat)) {s : List Nat} (hs : ixD (.lst ((NS.filter fun s => !tk.any fun u => u = s).map D.str)) (.int 0) = some (.str s)) {a b c : Sl} :
    (MM.e2 ixD (eComp (iSq (eComp (iArg rng1 (aCons (eC (.int 70)) aNil)) [7] (sName 7) tYesB (MM.e2 addD (eC (.str [110])) (eCall strD (aCons (eVar 7) aNil))))) [5] (sName 5) (MM.tB (MM.e2 notInD (eVar 5) (eVar 1))) (eVar 5)) (eC (.int 0))) (EN tk a b c .no) = .ret (.str s) := by
  have h1 : (eComp (iArg rng1 (aCons (eC (.int 70)) aNil)) [7] (sName 7) tYesB (MM.e2 addD (eC (.str [110])) (eCall strD (aCons (eVar 7) aNil)))) [.frz .cup, .frz (.lst (tk.map D.str)), .frz (.str LL), .frz (.str DD), a, .no, c, .no] = .ret (.lst (NS.map D.str)) := by
    kernel_rfl
  have h2 : (eComp (iSq (eComp (iArg rng1 (aCons (eC (.int 70)) aNil)) [7] (sName 7) tYesB (MM.e2 addD (eC (.str [110])) (eCall strD (aCons (eVar 7) aNil))))) [5] (sName 5) (MM.tB (MM.e2 notInD (eVar 5) (eVar 1))) (eVar 5)) (EN tk a b c .no) = .ret (.lst ((NS.filter fun s => !tk.any fun u => u = s).map D.str)) := by
    refine eComp_eq (xs := NS) (f := D.str) (fun s => !tk.any fun u => u = s) D.str ?_ fun s _ => ⟨EN tk a (.frz (.str s)) c .no, rfl, tB_eq (e2_eq (x := .str s) (y := .lst (tk.map D.str)) rfl rfl (notIn_strs _ _)), fun _ => rfl⟩
    kernel_rfl
  exact e2_eq h2 rfl hs
theorem g_for2 {P : List D → Prop} {Q : Fl → Prop} {E : MM.Ex → Prop} {tgt : D → MM.Env → Option MM.Env} {body b : MM.Env → T Fl} {it : MM.Env → T (List D)} {env : MM.Env} (h1 : ∀ Q', (∀ ds, P ds → Q' ds) → G (it env) Q' E) (I : Nat → MM.Env → Prop) (h0 : I 0 env)
    (ht : ∀ ds, P ds → ∀ i d, ds[i]? = some d → ∀ e, I i e → ∃ e', tgt d e = some e' ∧ G (body e') (fun | .nx e => I (i + 1) e | .ct e => I (i + 1) e | .bk e => (b e).wp Q E | .rt v => Q (.rt v)) E) (hd : ∀ ds, P ds → ∀ e, I ds.length e → G (b e) Q E) : G (sSeq (sFor it tgt body) b env) Q E :=
  ⟨seq_for2 (fun Q' hq => (h1 Q' hq).h) I h0 (fun ds hp i d hdi e he => let ⟨e', a, q⟩ := ht ds hp i d hdi e he; ⟨e', a, q.h⟩) fun ds hp e he => (hd ds hp e he).h⟩
theorem g_draw {Q : Fl → Prop} {E : MM.Ex → Prop} {a b : MM.Env → T Fl} {env : MM.Env} {t : T D} {e : D → MM.Env} (h : a env = t.bind fun x => .ret (.nx (e x))) (ht : t.wp (fun x => G (b (e x)) Q E) E) : G (sSeq a b env) Q E := by
  refine ⟨seq_wp ?_⟩
  rw [h, T.wp_bind]
  exact T.wp_mono (fun x hx => hx.h) (fun _ z => z) ht
theorem g_last {Q : Fl → Prop} {E : MM.Ex → Prop} {a : MM.Env → T Fl} {env : MM.Env} {t : T D} {e : D → MM.Env} (h : a env = t.bind fun x => .ret (.nx (e x))) (ht : t.wp (fun x => Q (.nx (e x))) E) : G (a env) Q E := by
  refine ⟨?_⟩
  rw [h, T.wp_bind]
  exact ht
theorem g_run {n : Nat} {b : MM.Env → T Fl} {ds : List D} {Q : D → Prop} {E : MM.Ex → Prop} (h : G (b (startE n ds)) (fun | .nx _ => Q .non | .rt d => Q d | _ => False) E) : (runB n b ds).wp Q E := by
  unfold runB
  rw [T.wp_bind]
  refine T.wp_mono (fun fl q => ?_) (fun _ z => z) h.h
  cases fl <;> exact q
theorem g_it {it : MM.Env → T (List D)} {env : MM.Env} {t : T D} {F : List D → Option (List D)} {Q : List D → Prop} {E : MM.Ex → Prop} (h : it env = (t.bind fun x => T.ret [x]).bind fun xs => ofO (F xs)) (ht : t.wp (fun x => ∃ ds, F [x] = some ds ∧ Q ds) E) : G (it env) Q E := by
  refine ⟨?_⟩
  rw [h, T.wp_bind, T.wp_bind]
  refine T.wp_mono (fun x hx => ?_) (fun _ z => z) ht
  obtain ⟨ds, h1, h2⟩ := hx
  show (ofO (F [x])).wp Q E
  rw [h1]
  exact h2
theorem name_end (tk : List (List Nat)) (d : D) (t : List Nat) (ch : Nat) (x : Sl) {E : MM.Ex → Prop} (hn : isN (ch :: t) = true) : G ((sIf (MM.tB (MM.e2 notInD (eVar 5) (eVar 1))) (sRet (eVar 5)) sNx) (EN tk (.frz d) (.frz (.str (ch :: t))) x .no)) (fun | .nx e => ∃ (a b c : Sl), e = EN tk a b c .no | .rt v => IsN v | _ => False) E := by
  have h : (MM.tB (MM.e2 notInD (eVar 5) (eVar 1))) (EN tk (.frz d) (.frz (.str (ch :: t))) x .no) = .ret (!tk.any fun u => u = ch :: t) := tB_eq (e2_eq (x := .str (ch :: t)) (y := .lst (tk.map D.str)) rfl rfl (notIn_strs _ _))
  cases hk : !tk.any fun u => decide (u = ch :: t) with
  | true =>
    rw [hk] at h
    exact g_of (if_t h) ⟨ch :: t, rfl, hn⟩
  | false =>
    rw [hk] at h
    exact g_of (if_f h) ⟨_, _, _, rfl⟩
theorem lname_ok (tk : List (List Nat)) (ht : tk.length ≤ 2) {E : MM.Ex → Prop} : (m__law_name [.cup, .lst (tk.map D.str)]).wp IsN E := by
  obtain ⟨s, hn, hs⟩ := fresh_ix tk ht
  refine g_run ?_
  unfold b__law_name
  refine g_go (e' := EN tk .no .no .no .no) (by kernel_rfl) ?_
  refine g_for (ds := upto 3 0) (by kernel_rfl) (fun e => ∃ (a b c : Sl), e = EN tk a b c .no) ⟨_, _, _, rfl⟩ (fun d hd e he => ?_) fun e he => ?_
  · obtain ⟨a, b, c, he⟩ := he
    subst he
    refine ⟨EN tk (.frz d) b c .no, by kernel_rfl, ?_⟩
    refine g_draw (t := m_some [.cup, .str LL]) (e := fun x => EN tk (.frz d) (.frz x) c .no) (by kernel_rfl) ?_
    refine some_str (by simp [LL]) (by simp [LL]) fun ch hch => ?_
    refine g_for2 (P := fun ds => ds.length ≤ 11) (fun Q' hq => ?_) (fun k e => ∃ (t : List Nat) (x : Sl), e = EN tk (.frz d) (.frz (.str (ch :: t))) x .no ∧ t.length = k ∧ ∀ x ∈ t, x ∈ LL ++ DD) ⟨[], _, rfl, rfl, fun _ h => absurd h List.not_mem_nil⟩ (fun ds hds i d' hd' e he => ?_) fun ds hds e he => ?_
    · refine g_it (t := m_some [.cup, .lst [.int 0, .int 0, .int 0, .int 1, .int 2, .int 11]]) (F := rng1) (by kernel_rfl) ?_
      refine some_lst (by simp) (by simp) fun z hz => ?_
      simp only [List.mem_cons, List.not_mem_nil, or_false] at hz
      rcases hz with hz | hz | hz | hz | hz | hz <;> subst hz <;> exact ⟨_, rfl, hq _ (by decide)⟩
    · obtain ⟨t, x, he, hl, hc⟩ := he
      subst he
      have hi : i < ds.length := (List.getElem?_eq_some_iff.mp hd').1
      refine ⟨EN tk (.frz d) (.frz (.str (ch :: t))) (.frz d') .no, by kernel_rfl, ?_⟩
      refine g_last (t := (m_some [.cup, .str (LL ++ DD)]).bind fun y => ofO (addD (.str (ch :: t)) y)) (e := fun z => EN tk (.frz d) (.frz z) (.frz d') .no) (by kernel_rfl) ?_
      rw [T.wp_bind]
      refine some_str (by simp [LL]) (by simp [LL, DD]) fun c2 hc2 => ?_
      rw [addD_str (by simp; omega)]
      exact ⟨t ++ [c2], _, rfl, by simp [hl], fun x hx => by
        rcases List.mem_append.mp hx with z | z
        · exact hc x z
        · rw [List.mem_singleton.mp z]; exact hc2⟩
    · obtain ⟨t, x, he, hl, hc⟩ := he
      subst he
      refine ⟨T.wp_mono (fun fl q => ?_) (fun _ z => z) (name_end tk d t ch x (E := E) (isN_mk hch hc (by omega))).h⟩
      cases fl with
      | nx e => exact q
      | rt v => exact q
      | ct e => exact q.elim
      | bk e => exact q.elim
  · obtain ⟨a, b, c, he⟩ := he
    subst he
    exact g_of (ret_eq (tail_eq tk hs)) ⟨s, rfl, hn⟩
/-- what the law's names are -/
def Keys (d : D) : Prop := ∃ ss : List (List Nat), d = .lst (ss.map D.str) ∧ ss ≠ [] ∧ ss.length ≤ 3 ∧ ∀ s ∈ ss, isN s = true
theorem strs_back : ∀ {xs : List D}, (∀ d ∈ xs, IsN d) → ∃ ss : List (List Nat), xs = ss.map D.str ∧ ∀ s ∈ ss, isN s = true
  | [], _ => ⟨[], rfl, fun _ h => absurd h List.not_mem_nil⟩
  | d :: xs, h => by
    obtain ⟨s, rfl, hs⟩ := h d List.mem_cons_self
    obtain ⟨ss, rfl, hss⟩ := strs_back fun d' hd' => h d' (List.mem_cons_of_mem _ hd')
    exact ⟨s :: ss, rfl, fun z hz => by
      rcases List.mem_cons.mp hz with rfl | z
      · exact hs
      · exact hss _ z⟩
theorem sorted_strs {ss : List (List Nat)} (h0 : ss ≠ []) (hl : ss.length ≤ 3) (hn : ∀ s ∈ ss, isN s = true) : ∃ d, sortedD (.lst (ss.map D.str)) = some d ∧ Keys d := by
  have hsz : sortable (ss.map D.str) = true := by
    unfold sortable allAlike
    simp only [Bool.and_eq_true, Bool.or_eq_true, decide_eq_true_eq, List.all_eq_true, List.mem_map]
    refine ⟨⟨⟨?_, .inr ?_⟩, okNL_str id 62 ss⟩, by simp; omega⟩
    · rintro x ⟨s, _, rfl⟩ y ⟨t, _, rfl⟩
      rfl
    · rintro x ⟨s, _, rfl⟩
      rfl
  refine ⟨.lst (sortD (ss.map D.str)), ?_, ?_⟩
  · unfold sortedD
    simp only [gathD, Option.bind_some, hsz, if_true]
  · obtain ⟨ts, h1, h2⟩ := strs_back (xs := sortD (ss.map D.str)) fun d hd => by
      obtain ⟨s, hs, rfl⟩ := List.mem_map.mp ((sortL_mem leD_total).mp hd)
      exact ⟨s, rfl, hn s hs⟩
    have hlen : ts.length = ss.length := by
      have := sortL_len leD_total (ss.map D.str)
      rw [show sortL leD (ss.map D.str) = sortD (ss.map D.str) from rfl, h1] at this
      simpa using this
    exact ⟨ts, congrArg D.lst h1, fun z => h0 (List.eq_nil_of_length_eq_zero (by rw [← hlen, z]; rfl)), by omega, h2⟩
theorem g_app {i : Nat} {f : MM.Env → T D} {env : MM.Env} {xs : List D} {t : T D} {Q : Fl → Prop} {E : MM.Ex → Prop} (h0 : env[i]? = some (.own (.lst xs))) (h1 : f env = t) {R : D → Prop} (ht : G t R E) (hr : ∀ d, R d → xs.length < 16777216 ∧ Q (.nx (env.set i (.own (.lst (xs ++ [d])))))) : G (sApp i f env) Q E := by
  refine ⟨?_⟩
  unfold sApp
  rw [h0]
  show ((f env).bind _).wp Q E
  rw [h1, T.wp_bind]
  refine T.wp_mono (fun d hd => ?_) (fun _ z => z) ht.h
  rw [if_pos (hr d hd).1]
  exact (hr d hd).2
theorem lk_wp {t : T D} {E : MM.Ex → Prop} (h : t.wp IsN fun _ => False) : G (t.noX.bind fun d => if d.flat then T.ret d else .bad) IsN E := by
  refine ⟨?_⟩
  rw [T.wp_bind]
  refine T.wp_mono (fun d hd => ?_) (fun _ z => z) (noX_of h)
  obtain ⟨s, hs0, hs⟩ := hd
  subst hs0
  exact ⟨s, rfl, hs⟩
def NI (n : Int) (k : Nat) (e : MM.Env) : Prop := ∃ (ss : List (List Nat)) (x : Sl), e = [.frz .cup, .frz (.int n), .own (.lst (ss.map D.str)), x] ∧ ss.length = k ∧ ∀ s ∈ ss, isN s = true
theorem names_step {n : Int} {ss : List (List Nat)} {k : Nat} {d' d : D} (hl : ss.length = k) (hn : ∀ s ∈ ss, isN s = true) (hd : IsN d) (hk : k ≤ 3) :
    (ss.map D.str).length < 16777216 ∧ NI n (k + 1) (([Sl.frz .cup, .frz (.int n), .own (.lst (ss.map D.str)), .frz d'] : MM.Env).set 2 (.own (.lst (ss.map D.str ++ [d])))) := by
  obtain ⟨s, hs0, hs⟩ := hd
  subst hs0
  refine ⟨by simp; omega, ss ++ [s], .frz d', by rw [List.map_append]; rfl, by simp [hl], fun z hz => ?_⟩
  rcases List.mem_append.mp hz with q | q
  · exact hn z q
  · rw [List.mem_singleton.mp q]; exact hs
theorem names_ok (n : Nat) (h1 : 1 ≤ n) (h3 : n ≤ 3) {E : MM.Ex → Prop} : (m__law_names [.cup, .int (n : Nat)]).wp Keys E := by
  refine g_run ?_
  unfold b__law_names
  refine g_go (e' := [.frz .cup, .frz (.int (n : Nat)), .own (.lst []), .no]) (by kernel_rfl) ?_
  have hit : (iArg rng1 (aCons (eVar 1) aNil)) [.frz .cup, .frz (.int (n : Nat)), .own (.lst []), .no] = .ret (upto n 0) := by
    refine (show _ = ofO (rng1 [.int (n : Nat)]) from rfl).trans ?_
    simp only [rng1]
    rw [if_pos (by unfold bnd; simp; omega), Int.toNat_natCast]
    rfl
  refine g_for2 (P := fun ds => ds = upto n 0) (fun Q' hq => g_of hit (hq _ rfl)) (NI (n : Nat)) ⟨[], _, rfl, rfl, fun _ h => absurd h List.not_mem_nil⟩ (fun ds hds i d' hd' e he => ?_) fun ds hds e he => ?_
  · obtain ⟨ss, x, he, hl, hn⟩ := he
    subst he
    have hi : i < n := by
      have := (List.getElem?_eq_some_iff.mp hd').1
      rw [hds, upto_len] at this
      exact this
    refine ⟨[.frz .cup, .frz (.int (n : Nat)), .own (.lst (ss.map D.str)), .frz d'], by kernel_rfl, ?_⟩
    refine g_app (t := (m__law_name [.cup, .lst (ss.map D.str)]).noX.bind fun d => if d.flat then T.ret d else .bad) (xs := ss.map D.str) rfl (by kernel_rfl) (R := IsN) ?_ fun d hd => names_step hl hn hd (by omega)
    have hlt : ss.length ≤ 2 := by omega
    exact lk_wp (lname_ok ss hlt)
  · obtain ⟨ss, x, he, hl, hn⟩ := he
    subst he
    rw [hds, upto_len] at hl
    obtain ⟨d, q1, q2⟩ := sorted_strs (ss := ss) (fun z => by rw [z] at hl; simp at hl; omega) (by omega) hn
    have e1' : (MM.e1 sortedD (pVar 2)) [.frz .cup, .frz (.int (n : Nat)), .own (.lst (ss.map D.str)), x] = .ret d := by
      refine (show _ = ofO (sortedD (.lst (ss.map D.str))) from rfl).trans ?_
      rw [q1]
      rfl
    exact g_of (ret_eq e1') q2
end Lk44

namespace Lk44
open PySem PySem.Spec L2 MM

theorem paired_sh : ∀ {ks : List Kd} {ys : List D}, Paired (fun k y => ∃ s, y = pd (k, s) ∧ okP1 (k, s) = true) ks ys → ∃ sh : List Pr, ys = sh.map pd ∧ ksOf sh = ks ∧ sh.all okP1 = true
  | _, _, .nil => ⟨[], rfl, rfl, rfl⟩
  | _, _, .cons h t => by
    obtain ⟨s, h1, h2⟩ := h
    subst h1
    obtain ⟨sh, e1, e2, e3⟩ := paired_sh t
    subst e1 e2
    exact ⟨(_, s) :: sh, rfl, rfl, by rw [List.all_cons, h2, e3]; rfl⟩
theorem keyed_ok (ks : List Kd) (ss : List (List Nat)) (h0 : ss ≠ []) (hl : ss.length ≤ 3) (hn : ∀ s ∈ ss, isN s = true) {E : MM.Ex → Prop} : (m__law_keyed [.cup, .tup (ks.map kd), .lst (ss.map D.str)]).wp (fun d => ∃ sh : List Pr, d = .tup (sh.map pd) ∧ ksOf sh = ks ∧ sh.all okP1 = true) E := by
  refine g_run ⟨?_⟩
  rw [show b__law_keyed (startE 4 [.cup, .tup (ks.map kd), .lst (ss.map D.str)]) = (((eComp (iSq (eVar 1)) [3] (sName 3) tYesB (eTup (aCons (eVar 3) (aCons (eIf (MM.tB (MM.e2 inD (eVar 3) (eTup (aCons (eC (.str [115, 101, 115, 115, 105, 111, 110])) (aCons (eC (.str [116, 105, 109, 101])) aNil))))) (eC (.str [])) (eFn 2 m_some (aCons (eVar 0) (aCons (eVar 2) aNil)))) aNil))) [.frz .cup, .frz (.tup (ks.map kd)), .frz (.lst (ss.map D.str)), .no]).bind fun x => T.ret [x]).bind fun xs => ofO (tupleD xs)).bind fun d => T.ret (.rt d) by kernel_rfl, T.wp_bind, T.wp_bind, T.wp_bind]
  refine eComp_wp (xs := ks) (f := kd) (fun k y => ∃ s, y = pd (k, s) ∧ okP1 (k, s) = true) (by kernel_rfl) (fun k _ => ⟨[.frz .cup, .frz (.tup (ks.map kd)), .frz (.lst (ss.map D.str)), .frz (kd k)], by kernel_rfl, ?_⟩) fun ys hys => ?_
  · have hc : noKey k = true ∨ noKey k = false := by cases noKey k <;> simp
    rcases hc with hk | hk
    · have e : (eTup (aCons (eVar 3) (aCons (eIf (MM.tB (MM.e2 inD (eVar 3) (eTup (aCons (eC (.str [115, 101, 115, 115, 105, 111, 110])) (aCons (eC (.str [116, 105, 109, 101])) aNil))))) (eC (.str [])) (eFn 2 m_some (aCons (eVar 0) (aCons (eVar 2) aNil)))) aNil))) [.frz .cup, .frz (.tup (ks.map kd)), .frz (.lst (ss.map D.str)), .frz (kd k)] = .ret (pd (k, [])) := by
        cases k <;> first | (exfalso; cases hk; done) | kernel_rfl
      refine wp_of e ⟨[], rfl, ?_⟩
      unfold okP1
      rw [hk]
      rfl
    · have e : (eTup (aCons (eVar 3) (aCons (eIf (MM.tB (MM.e2 inD (eVar 3) (eTup (aCons (eC (.str [115, 101, 115, 115, 105, 111, 110])) (aCons (eC (.str [116, 105, 109, 101])) aNil))))) (eC (.str [])) (eFn 2 m_some (aCons (eVar 0) (aCons (eVar 2) aNil)))) aNil))) [.frz .cup, .frz (.tup (ks.map kd)), .frz (.lst (ss.map D.str)), .frz (kd k)] =
          (((m_some [.cup, .lst (ss.map D.str)]).bind fun y => T.ret [y]).bind fun xs => T.ret (kd k :: xs)).bind fun xs => if xs.length ≤ 16777216 then T.ret (.tup xs) else .bad := by
        have e1 : (eIf (MM.tB (MM.e2 inD (eVar 3) (eTup (aCons (eC (.str [115, 101, 115, 115, 105, 111, 110])) (aCons (eC (.str [116, 105, 109, 101])) aNil))))) (eC (.str [])) (eFn 2 m_some (aCons (eVar 0) (aCons (eVar 2) aNil)))) [.frz .cup, .frz (.tup (ks.map kd)), .frz (.lst (ss.map D.str)), .frz (kd k)] = m_some [.cup, .lst (ss.map D.str)] := by
          cases k <;> first | (exfalso; cases hk; done) | kernel_rfl
        generalize m_some [.cup, .lst (ss.map D.str)] = t at e1 ⊢
        rw [← e1]
        rfl
      rw [e, T.wp_bind, T.wp_bind, T.wp_bind]
      refine some_lst (by simpa using h0) (by simp; omega) fun c hc => ?_
      obtain ⟨s, hs, hcs⟩ := List.mem_map.mp hc
      subst hcs
      refine ⟨s, rfl, ?_⟩
      unfold okP1
      rw [hk]
      exact hn s hs
  · obtain ⟨sh, e1, e2, e3⟩ := paired_sh hys
    subst e1
    exact ⟨sh, rfl, e2, e3⟩
/-! ### the rows -/
def K5 : List Kd := [.s, .t, .r, .o, .a]
def more (l : List (List Kd)) : List (List Kd) := l.flatMap fun r => K5.map fun k => r ++ [k]
def R2 : List (List Kd) := more (more [[]])
def R24 : List (List Kd) := R2 ++ more R2 ++ more (more R2)
theorem rows4_ok : m__law_rows [.int 4] = .ret (.lst (R24.map fun ks => .tup (ks.map kd))) := by kernel_rfl
theorem rows2_ok : m__law_rows [.int 2] = .ret (.lst (R2.map fun ks => .tup (ks.map kd))) := by kernel_rfl
theorem R24_len : ∀ ks ∈ R24, 2 ≤ ks.length ∧ ks.length ≤ 4 := by decide +kernel
end Lk44

namespace Lk44
open PySem PySem.Spec L2 MM

/-- the slots of the law -/
def EL (k r t n a s c e o x y f : Sl) : MM.Env := [.no, .frz .cup, k, r, t, n, a, s, c, e, o, x, y, f]
def far : List Pr := (List.range 50).flatMap fun _ => [(.r, [120]), (.a, [121]), (.s, []), (.a, [120])]
theorem p1_eq (k r t n a s c e o x y f : Sl) : p_1 (EL k r t n a s c e o x y f) = .ret (.nx (EL k r t n a s c e o x y f)) := by kernel_rfl
theorem p6_eq (k r t n a s c e o x y f : Sl) : p_6 (EL k r t n a s c e o x y f) = .ret (.nx (EL k r t n a s c e (.frz (.bl true)) x y f)) := by kernel_rfl
theorem p7_eq (k r t n a s c e o x y f : Sl) : p_7 (EL k r t n a s c e o x y f) = .ret (.nx (EL k r t n a s c e o x y (.frz (.tup (far.map pd))))) := by kernel_rfl
theorem okF : okSh far := ⟨by decide +kernel, by decide +kernel, by decide +kernel⟩
theorem okF1 : okSh (far ++ [(.o, [122])]) := ⟨by decide +kernel, by decide +kernel, by decide +kernel⟩
theorem okF2 : okSh (far ++ [(.a, [97, 97, 97, 97, 97, 97, 97, 97, 97, 97, 97, 97])]) := ⟨by decide +kernel, by decide +kernel, by decide +kernel⟩
theorem p8_eq (k r t n a s c e o x y : Sl) : p_8 (EL k r t n a s c e o x y (.frz (.tup (far.map pd)))) = .ret (.rt (.bl true)) := by
  have v : (eVar 13) (EL k r t n a s c e o x y (.frz (.tup (far.map pd)))) = .ret (.tup (far.map pd)) := by kernel_rfl
  have a1 : (MM.e2 addD (eVar 13) (eTup (aCons (eTup (aCons (eC (.str [111, 118, 101, 114])) (aCons (eC (.str [122])) aNil))) aNil))) (EL k r t n a s c e o x y (.frz (.tup (far.map pd)))) = .ret (.tup ((far ++ [(Kd.o, [122])] : List Pr).map pd)) := by kernel_rfl
  have a2 : (MM.e2 addD (eVar 13) (eTup (aCons (eTup (aCons (eC (.str [97, 103, 97, 105, 110])) (aCons (MM.e2 mulD (eC (.str [97])) (eC (.int 12))) aNil))) aNil))) (EL k r t n a s c e o x y (.frz (.tup (far.map pd)))) = .ret (.tup ((far ++ [(Kd.a, [97, 97, 97, 97, 97, 97, 97, 97, 97, 97, 97, 97])] : List Pr).map pd)) := by kernel_rfl
  exact ret_eq (eAnd_eq ((fn1_eq v).trans (told_ok okF)) (eAnd_eq ((fn1_eq a1).trans (told_ok okF1)) ((fn1_eq a2).trans (told_ok okF2))))
end Lk44

namespace Lk44
open PySem PySem.Spec L2 MM
theorem p3_eq (k r t n a s c e o x y f : Sl) : p_3 (EL k r t n a s c e o x y f) = .ret (.nx (EL k r t (.frz (.tup [kd .a, kd .a])) a (.frz (.str [120, 121])) c e o x y f)) := by kernel_rfl
end Lk44

namespace Lk44
open PySem PySem.Spec L2 MM
def rows4 : D := .lst (R24.map fun ks => .tup (ks.map kd))
theorem keys_wp {E : MM.Ex → Prop} : ((eFn 2 m__law_names (aCons (eVar 1) (aCons (MM.e2 addD (eC (.int 1)) (eFn 2 rollM (aCons (eVar 1) (aCons (eC (.int 3)) aNil)))) aNil))) (EL .no .no .no .no .no .no .no .no .no .no .no .no)).wp Keys E := by
  rw [show (eFn 2 m__law_names (aCons (eVar 1) (aCons (MM.e2 addD (eC (.int 1)) (eFn 2 rollM (aCons (eVar 1) (aCons (eC (.int 3)) aNil)))) aNil))) (EL .no .no .no .no .no .no .no .no .no .no .no .no) =
    (((((rollM [.cup, .int 3]).bind fun z => ofO (addD (.int 1) z)).bind fun y => T.ret [y]).bind fun xs => T.ret (D.cup :: xs)).bind fun xs => if lenL xs = 2 then m__law_names xs else .bad) by kernel_rfl, T.wp_bind, T.wp_bind, T.wp_bind, T.wp_bind]
  refine roll_wp (by decide) (by decide) fun i hi => ?_
  have h : ∀ i : Nat, i < 3 → (m__law_names [.cup, .int ((1 + i : Nat) : Int)]).wp Keys E := fun i hi => names_ok (1 + i) (by omega) (by omega)
  have h' := h i (by omega)
  rw [show addD (.int 1) (.int (i : Int)) = some (.int ((1 + i : Nat) : Int)) by simp [addD]]
  exact h'
def two44 : List D → T Fl
  | [x, y] => T.ret (.nx (EL (.frz x) (.frz y) .no .no .no .no .no .no .no .no .no .no))
  | _ => .bad
theorem p0_g {b : MM.Env → T Fl} {Q : Fl → Prop} {E : MM.Ex → Prop} (h : ∀ ss : List (List Nat), ss ≠ [] → ss.length ≤ 3 → (∀ s ∈ ss, isN s = true) → G (b (EL (.frz (.lst (ss.map D.str))) (.frz rows4) .no .no .no .no .no .no .no .no .no .no)) Q E) :
    G (sSeq p_0 b (EL .no .no .no .no .no .no .no .no .no .no .no .no)) Q E := by
  refine ⟨seq_wp ?_⟩
  rw [show p_0 (EL .no .no .no .no .no .no .no .no .no .no .no .no) = (((eFn 2 m__law_names (aCons (eVar 1) (aCons (MM.e2 addD (eC (.int 1)) (eFn 2 rollM (aCons (eVar 1) (aCons (eC (.int 3)) aNil)))) aNil))) (EL .no .no .no .no .no .no .no .no .no .no .no .no)).bind fun k => T.ret [k, rows4]).bind two44 by kernel_rfl, T.wp_bind, T.wp_bind]
  refine T.wp_mono (fun k hk => ?_) (fun _ z => z) keys_wp
  obtain ⟨ss, h1, h2, h3, h4⟩ := hk
  subst h1
  exact (h ss h2 h3 h4).h
theorem p2_told {d e : D} {sh : List Pr} (h1 : 2 ≤ sh.length) (h2 : sh.length ≤ 100000) (h3 : sh.all okP1 = true) : m__law_told [.tup (sh.map pd)] = .ret (.bl true) := told_ok ⟨h1, h2, h3⟩
end Lk44

namespace Lk44
open PySem PySem.Spec L2 MM
theorem p2_end (ss : List (List Nat)) (ks : List Kd) (h0 : ss ≠ []) (hl : ss.length ≤ 3) (hn : ∀ s ∈ ss, isN s = true) (k2 : 2 ≤ ks.length) (k9 : ks.length ≤ 100000) (r t a s c e o x y f : Sl) {E : MM.Ex → Prop} :
    G ((sIf (MM.tNot (MM.tB (eFn 1 m__law_told (aCons (eFn 3 m__law_keyed (aCons (eVar 1) (aCons (eVar 5) (aCons (eVar 2) aNil)))) aNil)))) (sRet (eC (.bl false))) sNx) (EL (.frz (.lst (ss.map D.str))) r t (.frz (.tup (ks.map kd))) a s c e o x y f)) (fun fl => fl = .nx (EL (.frz (.lst (ss.map D.str))) r t (.frz (.tup (ks.map kd))) a s c e o x y f)) E := by
  refine ⟨?_⟩
  rw [show (sIf (MM.tNot (MM.tB (eFn 1 m__law_told (aCons (eFn 3 m__law_keyed (aCons (eVar 1) (aCons (eVar 5) (aCons (eVar 2) aNil)))) aNil)))) (sRet (eC (.bl false))) sNx) (EL (.frz (.lst (ss.map D.str))) r t (.frz (.tup (ks.map kd))) a s c e o x y f) =
    (((((m__law_keyed [.cup, .tup (ks.map kd), .lst (ss.map D.str)]).bind fun d => T.ret [d]).bind fun xs => if lenL xs = 1 then m__law_told xs else .bad).bind fun x => ofO (isBl x)).bind fun b => T.ret (!b)).bind fun k => if k then T.ret (.rt (.bl false)) else T.ret (.nx (EL (.frz (.lst (ss.map D.str))) r t (.frz (.tup (ks.map kd))) a s c e o x y f)) by kernel_rfl, T.wp_bind, T.wp_bind, T.wp_bind, T.wp_bind, T.wp_bind]
  refine T.wp_mono (fun d hd => ?_) (fun _ z => z) (keyed_ok ks ss h0 hl hn)
  obtain ⟨sh, e1, e2, e3⟩ := hd
  subst e1
  have hlen : sh.length = ks.length := by rw [← e2]; simp [ksOf]
  have ht := told_ok (sh := sh) ⟨by omega, by omega, e3⟩
  rw [show ∀ (Q : List D → Prop) (E : MM.Ex → Prop), (T.ret [D.tup (sh.map pd)]).wp Q E = Q [.tup (sh.map pd)] from fun _ _ => rfl]
  rw [show (if lenL [D.tup (sh.map pd)] = 1 then m__law_told [.tup (sh.map pd)] else .bad) = T.ret (.bl true) by rw [if_pos (by rfl)]; exact ht]
  rfl
end Lk44

namespace Lk44
open PySem PySem.Spec L2 MM
/-- a comprehension over what is drawn -/
theorem eComp_wpi {α : Type} {it : MM.Env → T (List D)} {vs : List Nat} {tgt : D → MM.Env → Option MM.Env} {elt : MM.Env → T D} {env : MM.Env} {f : α → D} {E : MM.Ex → Prop} {Q : D → Prop} (P : List α → Prop) (R : α → D → Prop)
    (h0 : (it env).wp (fun ds => ∃ xs, ds = xs.map f ∧ P xs) E) (h : ∀ xs, P xs → ∀ x ∈ xs, ∃ e, tgt (f x) (wipeE env vs) = some e ∧ (elt e).wp (R x) fun _ => False) (hq : ∀ xs ys, P xs → Paired R xs ys → Q (.lst ys)) : (eComp it vs tgt tYesB elt env).wp Q E := by
  unfold eComp
  rw [T.wp_bind]
  refine T.wp_mono (fun ds hd => ?_) (fun _ z => z) h0
  obtain ⟨xs, e1, hp⟩ := hd
  subst e1
  have := eComp_wp (it := fun _ => T.ret (xs.map f)) (vs := vs) (tgt := tgt) (elt := elt) (env := env) (xs := xs) (f := f) (E := E) (Q := Q) R rfl (h xs hp) fun ys hy => hq xs ys hp hy
  unfold eComp at this
  rw [T.bind_ret] at this
  exact this
theorem rows4_some {Q : D → Prop} {E : MM.Ex → Prop} (h : ∀ ks : List Kd, 2 ≤ ks.length → ks.length ≤ 4 → Q (.tup (ks.map kd))) : (m_some [.cup, rows4]).wp Q E := by
  have n0 : R24.map (fun ks => D.tup (ks.map kd)) ≠ [] := by
    have : R24 ≠ [] := by decide +kernel
    simpa using this
  have nl : (R24.map fun ks => D.tup (ks.map kd)).length ≤ 16777216 := by
    have : R24.length ≤ 1000 := by decide +kernel
    rw [List.length_map]
    omega
  have hm : ∀ c ∈ R24.map (fun ks => D.tup (ks.map kd)), Q c := fun c hc => by
    obtain ⟨ks, h1, h2⟩ := List.mem_map.mp hc
    subst h2
    exact h ks (R24_len ks h1).1 (R24_len ks h1).2
  exact some_lst n0 nl hm
end Lk44

namespace Lk44
open PySem PySem.Spec L2 MM
def W6k : List D := [kd .s, kd .t, kd .r, kd .o, kd .a, kd .a]
theorem paired_ks : ∀ {xs : List Nat} {ys : List D}, Paired (fun (_ : Nat) y => ∃ k, y = kd k) xs ys → ∃ ks : List Kd, ys = ks.map kd ∧ ks.length = xs.length
  | _, _, .nil => ⟨[], rfl, rfl⟩
  | _, _, .cons h t => by
    obtain ⟨k, h1⟩ := h
    subst h1
    obtain ⟨ks, e1, e2⟩ := paired_ks t
    subst e1
    exact ⟨k :: ks, rfl, by simp [e2]⟩
theorem rng_drawn {m i : Nat} (hm : m = 3 ∨ m = 10 ∨ m = 40) (hi : i < m) : ∃ xs : List Nat, rng1 [.int ((2 + i : Nat) : Int)] = some (xs.map fun k : Nat => D.int k) ∧ 2 ≤ xs.length ∧ xs.length ≤ 41 := by
  refine ⟨List.range (2 + i), rng1_nat (by omega), by simp, by simp; omega⟩
theorem it_wp (k r t n a s c e o x y f : Sl) {E : MM.Ex → Prop} : ((iArg rng1 (aCons (MM.e2 addD (eC (.int 2)) (eFn 2 rollM (aCons (eVar 1) (aCons (eFn 2 m_some (aCons (eVar 1) (aCons (eLst (aCons (eC (.int 3)) (aCons (eC (.int 10)) (aCons (eC (.int 40)) aNil)))) aNil))) aNil)))) aNil)) (EL k r t n a s c e o x y f)).wp (fun ds => ∃ xs : List Nat, ds = xs.map (fun k : Nat => D.int k) ∧ (2 ≤ xs.length ∧ xs.length ≤ 41)) E := by
  rw [show (iArg rng1 (aCons (MM.e2 addD (eC (.int 2)) (eFn 2 rollM (aCons (eVar 1) (aCons (eFn 2 m_some (aCons (eVar 1) (aCons (eLst (aCons (eC (.int 3)) (aCons (eC (.int 10)) (aCons (eC (.int 40)) aNil)))) aNil))) aNil)))) aNil)) (EL k r t n a s c e o x y f) = ((((((m_some [.cup, .lst [.int 3, .int 10, .int 40]]).bind fun z => T.ret [z]).bind fun xs => T.ret (D.cup :: xs)).bind fun xs => if lenL xs = 2 then rollM xs else .bad).bind fun y => ofO (addD (.int 2) y)).bind fun y => T.ret [y]).bind fun xs => ofO (rng1 xs) by kernel_rfl, T.wp_bind, T.wp_bind, T.wp_bind, T.wp_bind, T.wp_bind, T.wp_bind]
  refine some_lst (by simp) (by simp) fun z hz => ?_
  have key : ∀ m : Nat, (m = 3 ∨ m = 10 ∨ m = 40) → (rollM [.cup, .int (m : Nat)]).wp (fun y => (ofO (addD (.int 2) y)).wp (fun y => (T.ret [y]).wp (fun xs => (ofO (rng1 xs)).wp (fun ds => ∃ xs : List Nat, ds = xs.map (fun k : Nat => D.int k) ∧ (2 ≤ xs.length ∧ xs.length ≤ 41)) E) E) E) E := fun m hm => by
    refine roll_wp (by omega) (by omega) fun i hi => ?_
    obtain ⟨xs, h1, h2, h3⟩ := rng_drawn (i := i) hm (by omega)
    rw [show addD (.int 2) (.int (i : Int)) = some (.int ((2 + i : Nat) : Int)) by simp [addD]]
    show (ofO (rng1 [.int ((2 + i : Nat) : Int)])).wp _ E
    rw [h1]
    exact ⟨xs, rfl, h2, h3⟩
  simp only [List.mem_cons, List.not_mem_nil, or_false] at hz
  rcases hz with hz | hz | hz
  · subst hz; exact key 3 (.inl rfl)
  · subst hz; exact key 10 (.inr (.inl rfl))
  · subst hz; exact key 40 (.inr (.inr rfl))
end Lk44

namespace Lk44
open PySem PySem.Spec L2 MM
theorem kinds_wp (k r t n a s c e o x y f : Sl) {E : MM.Ex → Prop} : ((eCall tupleD (aCons (eComp (iArg rng1 (aCons (MM.e2 addD (eC (.int 2)) (eFn 2 rollM (aCons (eVar 1) (aCons (eFn 2 m_some (aCons (eVar 1) (aCons (eLst (aCons (eC (.int 3)) (aCons (eC (.int 10)) (aCons (eC (.int 40)) aNil)))) aNil))) aNil)))) aNil)) [6] (sName 6) tYesB (eFn 2 m_some (aCons (eVar 1) (aCons (eLst (aCons (eC (.str [115, 101, 115, 115, 105, 111, 110])) (aCons (eC (.str [116, 105, 109, 101])) (aCons (eC (.str [114, 101, 97, 100])) (aCons (eC (.str [111, 118, 101, 114])) (aCons (eC (.str [97, 103, 97, 105, 110])) (aCons (eC (.str [97, 103, 97, 105, 110])) aNil))))))) aNil)))) aNil)) (EL k r t n a s c e o x y f)).wp (fun d => ∃ ks : List Kd, d = .tup (ks.map kd) ∧ (2 ≤ ks.length ∧ ks.length ≤ 41)) E := by
  rw [show (eCall tupleD (aCons (eComp (iArg rng1 (aCons (MM.e2 addD (eC (.int 2)) (eFn 2 rollM (aCons (eVar 1) (aCons (eFn 2 m_some (aCons (eVar 1) (aCons (eLst (aCons (eC (.int 3)) (aCons (eC (.int 10)) (aCons (eC (.int 40)) aNil)))) aNil))) aNil)))) aNil)) [6] (sName 6) tYesB (eFn 2 m_some (aCons (eVar 1) (aCons (eLst (aCons (eC (.str [115, 101, 115, 115, 105, 111, 110])) (aCons (eC (.str [116, 105, 109, 101])) (aCons (eC (.str [114, 101, 97, 100])) (aCons (eC (.str [111, 118, 101, 114])) (aCons (eC (.str [97, 103, 97, 105, 110])) (aCons (eC (.str [97, 103, 97, 105, 110])) aNil))))))) aNil)))) aNil)) (EL k r t n a s c e o x y f) = (((eComp (iArg rng1 (aCons (MM.e2 addD (eC (.int 2)) (eFn 2 rollM (aCons (eVar 1) (aCons (eFn 2 m_some (aCons (eVar 1) (aCons (eLst (aCons (eC (.int 3)) (aCons (eC (.int 10)) (aCons (eC (.int 40)) aNil)))) aNil))) aNil)))) aNil)) [6] (sName 6) tYesB (eFn 2 m_some (aCons (eVar 1) (aCons (eLst (aCons (eC (.str [115, 101, 115, 115, 105, 111, 110])) (aCons (eC (.str [116, 105, 109, 101])) (aCons (eC (.str [114, 101, 97, 100])) (aCons (eC (.str [111, 118, 101, 114])) (aCons (eC (.str [97, 103, 97, 105, 110])) (aCons (eC (.str [97, 103, 97, 105, 110])) aNil))))))) aNil)))) (EL k r t n a s c e o x y f)).bind fun x => T.ret [x]).bind fun xs => ofO (tupleD xs) by kernel_rfl, T.wp_bind, T.wp_bind]
  refine eComp_wpi (fun xs : List Nat => 2 ≤ xs.length ∧ xs.length ≤ 41) (fun (_ : Nat) y => ∃ k, y = kd k) (it_wp k r t n a s c e o x y f) (fun xs _ i _ => ⟨EL k r t n (.frz (.int i)) s c e o x y f, by kernel_rfl, ?_⟩) fun xs ys hp hy => ?_
  · rw [show (eFn 2 m_some (aCons (eVar 1) (aCons (eLst (aCons (eC (.str [115, 101, 115, 115, 105, 111, 110])) (aCons (eC (.str [116, 105, 109, 101])) (aCons (eC (.str [114, 101, 97, 100])) (aCons (eC (.str [111, 118, 101, 114])) (aCons (eC (.str [97, 103, 97, 105, 110])) (aCons (eC (.str [97, 103, 97, 105, 110])) aNil))))))) aNil))) (EL k r t n (.frz (.int i)) s c e o x y f) = m_some [.cup, .lst W6k] by kernel_rfl]
    refine some_lst (by simp [W6k]) (by simp [W6k]) fun z hz => ?_
    simp only [W6k, List.mem_cons, List.not_mem_nil, or_false] at hz
    rcases hz with hz | hz | hz | hz | hz | hz <;> exact ⟨_, hz⟩
  · obtain ⟨ks, e1, e2⟩ := paired_ks hy
    subst e1
    exact ⟨ks, rfl, by omega, by omega⟩
end Lk44

namespace Lk44
open PySem PySem.Spec L2 MM
theorem g_mono {α : Type} {t : T α} {Q Q' : α → Prop} {E : MM.Ex → Prop} (h : G t Q E) (hq : ∀ a, Q a → Q' a) : G t Q' E := ⟨T.wp_mono hq (fun _ z => z) h.h⟩
theorem g_if_t {c : MM.Env → T Bool} {a b : MM.Env → T Fl} {env : MM.Env} {Q : Fl → Prop} {E : MM.Ex → Prop} (h : c env = .ret true) (g : G (sSeq a b env) Q E) : G (sSeq (sIf c a sNx) b env) Q E := by
  have : sSeq (sIf c a sNx) b env = sSeq a b env := by unfold sSeq; rw [if_t h]
  rw [this]; exact g
theorem g_if_f {c : MM.Env → T Bool} {a b : MM.Env → T Fl} {env : MM.Env} {Q : Fl → Prop} {E : MM.Ex → Prop} (h : c env = .ret false) (g : G (b env) Q E) : G (sSeq (sIf c a sNx) b env) Q E := by
  rw [skip h]; exact g
theorem upto_int : ∀ {n : Nat} {i : Int} {d : D}, d ∈ upto n i → ∃ j : Int, d = .int j
  | 0, _, _, h => by simp [upto] at h
  | n + 1, i, d, h => by
    simp only [upto, List.mem_cons] at h
    rcases h with h | h
    · exact ⟨i, h⟩
    · exact upto_int h
def EK (ss : List (List Nat)) (t n a s c e o x y f : Sl) : MM.Env := EL (.frz (.lst (ss.map D.str))) (.frz rows4) t n a s c e o x y f
theorem p2_g {b : MM.Env → T Fl} {Q : Fl → Prop} {E : MM.Ex → Prop} (ss : List (List Nat)) (h0 : ss ≠ []) (hl : ss.length ≤ 3) (hn : ∀ s ∈ ss, isN s = true)
    (h : ∀ t n : Sl, G (b (EK ss t n .no .no .no .no .no .no .no .no)) Q E) : G (sSeq p_2 b (EK ss .no .no .no .no .no .no .no .no .no .no)) Q E := by
  unfold p_2
  refine g_for (ds := upto 60 0) (by kernel_rfl) (fun e => ∃ t n : Sl, e = EK ss t n .no .no .no .no .no .no .no .no) ⟨_, _, rfl⟩ (fun d hd e he => ?_) (fun e he => ?_)
  · obtain ⟨t, n, he⟩ := he
    subst he
    obtain ⟨i, hi⟩ := upto_int hd
    subst hi
    refine ⟨EK ss (.frz (.int i)) n .no .no .no .no .no .no .no .no, by kernel_rfl, ?_⟩
    refine g_draw (t := m_some [.cup, rows4]) (e := fun x => EK ss (.frz (.int i)) (.frz x) .no .no .no .no .no .no .no .no) (by kernel_rfl) ?_
    refine rows4_some fun ks k2 k4 => ?_
    have hc : (MM.tB (MM.e2 gtI (eVar 4) (eC (.int 40)))) (EK ss (.frz (.int i)) (.frz (.tup (ks.map kd))) .no .no .no .no .no .no .no .no) = .ret (decide (40 < i)) := by kernel_rfl
    cases hd : decide (40 < i) with
    | true =>
      rw [hd] at hc
      refine g_if_t hc ?_
      refine g_draw (e := fun x => EK ss (.frz (.int i)) (.frz x) .no .no .no .no .no .no .no .no) (by kernel_rfl) (T.wp_mono (fun x hx => ?_) (fun _ z => z) (kinds_wp (.frz (.lst (ss.map D.str))) (.frz rows4) (.frz (.int i)) (.frz (.tup (ks.map kd))) .no .no .no .no .no .no .no .no (E := E)))
      obtain ⟨ks', e1, e2, e3⟩ := hx
      subst e1
      exact g_mono (p2_end ss ks' h0 hl hn e2 (by omega) _ _ _ _ _ _ _ _ _ _) fun fl hf => by subst hf; exact ⟨_, _, rfl⟩
    | false =>
      rw [hd] at hc
      refine g_if_f hc ?_
      exact g_mono (p2_end ss ks h0 hl hn k2 (by omega) _ _ _ _ _ _ _ _ _ _) fun fl hf => by subst hf; exact ⟨_, _, rfl⟩
  · obtain ⟨t, n, he⟩ := he
    subst he
    exact h t n
end Lk44

namespace Lk44
open PySem PySem.Spec L2 MM
def fitB (x : D) : Bool := match m_fits_pair [x] with
  | .ret (.bl b) => b
  | _ => false
theorem fitB_of {x : D} {b : Bool} (h : m_fits_pair [x] = .ret (.bl b)) : fitB x = b := by unfold fitB; rw [h]
theorem fits_gen (xs : List D) (h : ∀ x ∈ xs, m_fits_pair [x] = .ret (.bl (fitB x))) : m_fits_shape [.tup xs] = .ret (.bl (decide (1 < xs.length) && xs.all fitB)) := by
  refine run_eq (ret_eq ((eAnd_eq (k := true) rfl (eAnd_eq (e2_eq (call1_eq rfl (show lenD [.tup xs] = some (.int (xs.length : Nat)) by simp [lenD])) rfl (gtI_nat _)) (call1_eq (eComp_all (xs := xs) (f := id) (fun p => .bl (fitB p)) (by rw [List.map_id]; rfl) fun p hp => ⟨[.frz (.tup xs), .frz p], rfl, (fn1_eq rfl).trans (h p hp)⟩) (all_map fitB _)))).trans ?_))
  rfl
theorem bad_at (pre post : List Pr) (o : D) (ho : m_fits_pair [o] = .ret (.bl false)) : m_fits_shape [.tup (pre.map pd ++ [o] ++ post.map pd)] = .ret (.bl false) := by
  rw [fits_gen]
  · have : (pre.map pd ++ [o] ++ post.map pd).all fitB = false := by
      simp only [List.all_append, List.all_cons, fitB_of ho, Bool.false_and, Bool.and_false]
    rw [this, Bool.and_false]
  · intro x hx
    simp only [List.mem_append, List.mem_map, List.mem_singleton] at hx
    rcases hx with (⟨p, _, e⟩ | e) | ⟨p, _, e⟩
    · subst e; rw [fitB_of (fitp_ok p)]; exact fitp_ok p
    · subst e; rw [fitB_of ho]; exact ho
    · subst e; rw [fitB_of (fitp_ok p)]; exact fitp_ok p
def oddp (k : Kd) (s : List Nat) : List D := [.non, .tup [], .tup [kd k], .tup [kd k, .str s, .str s], .lst [kd k, .str s], .tup [.non, .str s], .tup [.str [98, 97, 115, 101], .str s], .tup [.str [], .str s], .tup [kd k, .non], .tup [kd k, .str [65]], .tup [kd k, .str [49, 97]], .tup [kd k, .str [97, 97, 97, 97, 97, 97, 97, 97, 97, 97, 97, 97, 97]]]
theorem oddp_bad (k : Kd) (s : List Nat) : ∀ o ∈ oddp k s, m_fits_pair [o] = .ret (.bl false) := by
  intro o ho
  simp only [oddp, List.mem_cons, List.not_mem_nil, or_false] at ho
  rcases ho with h | h | h | h | h | h | h | h | h | h | h | h <;> subst h <;> cases k <;> kernel_rfl
def oddL (k : Kd) (s sk : List Nat) : List D := oddp k s ++ [.tup [kd k, .str sk], .tup [.str [115, 101, 115, 115, 105, 111, 110], .str [120]], .tup [.str [116, 105, 109, 101], .non]]
def odds (sh pre : List Pr) (k : Kd) (s sk : List Nat) (post : List Pr) : List D :=
  [.non, .tup [], .tup ((sh.map pd).take 1), .lst (sh.map pd), .int 5, .str [111, 118, 101, 114], .tup [.tup (sh.map pd), .tup (sh.map pd)], ((sh.map pd)[0]?.getD .non)] ++ (oddL k s sk).map fun o => .tup (pre.map pd ++ [o] ++ post.map pd)
theorem sk_bad {k : Kd} {s sk : List Nat} (ho : okP1 (k, s) = true) (h : (s = [] ∧ sk = [120]) ∨ (s ≠ [] ∧ sk = [])) : m_fits_pair [.tup [kd k, .str sk]] = .ret (.bl false) := by
  rcases h with ⟨h1, h2⟩ | ⟨h1, h2⟩
  · subst h1 h2
    cases k <;> first | (exfalso; revert ho; decide) | kernel_rfl
  · subst h2
    cases k with
    | s => unfold okP1 at ho; rw [show noKey (Kd.s, s).1 = true from rfl, if_pos rfl] at ho; exact absurd (of_decide_eq_true ho) h1
    | t => unfold okP1 at ho; rw [show noKey (Kd.t, s).1 = true from rfl, if_pos rfl] at ho; exact absurd (of_decide_eq_true ho) h1
    | r => kernel_rfl
    | o => kernel_rfl
    | a => kernel_rfl
theorem oddL_bad {k : Kd} {s sk : List Nat} (ho : okP1 (k, s) = true) (h : (s = [] ∧ sk = [120]) ∨ (s ≠ [] ∧ sk = [])) : ∀ o ∈ oddL k s sk, m_fits_pair [o] = .ret (.bl false) := by
  intro o hm
  unfold oddL at hm
  rcases List.mem_append.mp hm with z | z
  · exact oddp_bad k s o z
  · simp only [List.mem_cons, List.not_mem_nil, or_false] at z
    rcases z with e | e | e
    · subst e; exact sk_bad ho h
    · subst e; kernel_rfl
    · subst e; kernel_rfl
theorem head_bad {sh : List Pr} (h2 : 2 ≤ sh.length) (h4 : sh.length ≤ 4) : ∀ o ∈ [D.non, .tup [], .tup ((sh.map pd).take 1), .lst (sh.map pd), .int 5, .str [111, 118, 101, 114], .tup [.tup (sh.map pd), .tup (sh.map pd)], ((sh.map pd)[0]?.getD .non)], m_fits_shape [o] = .ret (.bl false) := by
  intro o ho
  simp only [List.mem_cons, List.not_mem_nil, or_false] at ho
  match sh, h2, h4 with
  | [p, q], _, _ => rcases ho with h | h | h | h | h | h | h | h <;> subst h <;> kernel_rfl
  | [p, q, r], _, _ => rcases ho with h | h | h | h | h | h | h | h <;> subst h <;> kernel_rfl
  | [p, q, r, u], _, _ => rcases ho with h | h | h | h | h | h | h | h <;> subst h <;> kernel_rfl
  | [], h, _ => exact absurd h (by simp)
  | [_], h, _ => exact absurd h (by simp)
  | _ :: _ :: _ :: _ :: _ :: _, _, h => exact absurd h (by simp)
theorem odds_bad {sh pre : List Pr} {k : Kd} {s sk : List Nat} {post : List Pr} (h2 : 2 ≤ sh.length) (h4 : sh.length ≤ 4) (ho : okP1 (k, s) = true) (h : (s = [] ∧ sk = [120]) ∨ (s ≠ [] ∧ sk = [])) : ∀ o ∈ odds sh pre k s sk post, m_fits_shape [o] = .ret (.bl false) := by
  intro o hm
  unfold odds at hm
  rcases List.mem_append.mp hm with z | z
  · exact head_bad h2 h4 o z
  · obtain ⟨x, hx, e⟩ := List.mem_map.mp z
    subst e
    exact bad_at pre post x (oddL_bad ho h x hx)
def Odd (d : D) : Prop := ∃ ds, d = .lst ds ∧ ∀ o ∈ ds, m_fits_shape [o] = .ret (.bl false)
def post (fl : Fl) : Prop := match fl with
  | .nx _ => Odd .non
  | .rt d => Odd d
  | _ => False
theorem g_runG {n : Nat} {b : MM.Env → T Fl} {ds : List D} {Q : D → Prop} {E : MM.Ex → Prop} (h : G (b (startE n ds)) (fun | .nx _ => Q .non | .rt d => Q d | _ => False) E) : G (runB n b ds) Q E := ⟨g_run h⟩
theorem odd_fin {t : T Fl} {sh pre : List Pr} {k : Kd} {s sk : List Nat} {po : List Pr} {E : MM.Ex → Prop} (h : t = .ret (.rt (.lst (odds sh pre k s sk po)))) (h2 : 2 ≤ sh.length) (h4 : sh.length ≤ 4) (ho : okP1 (k, s) = true) (hs : (s = [] ∧ sk = [120]) ∨ (s ≠ [] ∧ sk = [])) : G t post E :=
  g_of h ⟨_, rfl, odds_bad h2 h4 ho hs⟩
theorem odd_wp2 (p q : Pr) (hp : okP1 p = true) (hq : okP1 q = true) {E : MM.Ex → Prop} : G (m__law_odd_shapes [.cup, .tup ([p, q].map pd)]) Odd E := by
  refine g_runG (b := b__law_odd_shapes) (Q := Odd) ?_
  unfold b__law_odd_shapes
  refine g_mono (Q := post) ?_ (fun fl h => by cases fl <;> exact h)
  refine g_draw (t := rollM [.cup, .int 2]) (e := fun x => [.frz .cup, .frz (.tup ([p, q].map pd)), .frz x, .no, .no, .no, .no]) (by kernel_rfl) ?_
  refine roll_wp (by decide) (by decide) fun i hi => ?_
  have hc : i = 0 ∨ i = 1 := by omega
  rcases hc with h | h
  · subst h
    obtain ⟨k, s⟩ := p
    cases s with
    | nil => exact odd_fin (sh := [(k, []), q]) (pre := []) (k := k) (s := []) (sk := [120]) (po := [q]) (by kernel_rfl) (by simp) (by simp) hp (.inl ⟨rfl, rfl⟩)
    | cons c s => exact odd_fin (sh := [(k, (c :: s)), q]) (pre := []) (k := k) (s := (c :: s)) (sk := []) (po := [q]) (by kernel_rfl) (by simp) (by simp) hp (.inr ⟨by simp, rfl⟩)
  · subst h
    obtain ⟨k, s⟩ := q
    cases s with
    | nil => exact odd_fin (sh := [p, (k, [])]) (pre := [p]) (k := k) (s := []) (sk := [120]) (po := []) (by kernel_rfl) (by simp) (by simp) hq (.inl ⟨rfl, rfl⟩)
    | cons c s => exact odd_fin (sh := [p, (k, (c :: s))]) (pre := [p]) (k := k) (s := (c :: s)) (sk := []) (po := []) (by kernel_rfl) (by simp) (by simp) hq (.inr ⟨by simp, rfl⟩)
theorem odd_wp3 (p q r : Pr) (hp : okP1 p = true) (hq : okP1 q = true) (hr : okP1 r = true) {E : MM.Ex → Prop} : G (m__law_odd_shapes [.cup, .tup ([p, q, r].map pd)]) Odd E := by
  refine g_runG (b := b__law_odd_shapes) (Q := Odd) ?_
  unfold b__law_odd_shapes
  refine g_mono (Q := post) ?_ (fun fl h => by cases fl <;> exact h)
  refine g_draw (t := rollM [.cup, .int 3]) (e := fun x => [.frz .cup, .frz (.tup ([p, q, r].map pd)), .frz x, .no, .no, .no, .no]) (by kernel_rfl) ?_
  refine roll_wp (by decide) (by decide) fun i hi => ?_
  have hc : i = 0 ∨ i = 1 ∨ i = 2 := by omega
  rcases hc with h | h | h
  · subst h
    obtain ⟨k, s⟩ := p
    cases s with
    | nil => exact odd_fin (sh := [(k, []), q, r]) (pre := []) (k := k) (s := []) (sk := [120]) (po := [q, r]) (by kernel_rfl) (by simp) (by simp) hp (.inl ⟨rfl, rfl⟩)
    | cons c s => exact odd_fin (sh := [(k, (c :: s)), q, r]) (pre := []) (k := k) (s := (c :: s)) (sk := []) (po := [q, r]) (by kernel_rfl) (by simp) (by simp) hp (.inr ⟨by simp, rfl⟩)
  · subst h
    obtain ⟨k, s⟩ := q
    cases s with
    | nil => exact odd_fin (sh := [p, (k, []), r]) (pre := [p]) (k := k) (s := []) (sk := [120]) (po := [r]) (by kernel_rfl) (by simp) (by simp) hq (.inl ⟨rfl, rfl⟩)
    | cons c s => exact odd_fin (sh := [p, (k, (c :: s)), r]) (pre := [p]) (k := k) (s := (c :: s)) (sk := []) (po := [r]) (by kernel_rfl) (by simp) (by simp) hq (.inr ⟨by simp, rfl⟩)
  · subst h
    obtain ⟨k, s⟩ := r
    cases s with
    | nil => exact odd_fin (sh := [p, q, (k, [])]) (pre := [p, q]) (k := k) (s := []) (sk := [120]) (po := []) (by kernel_rfl) (by simp) (by simp) hr (.inl ⟨rfl, rfl⟩)
    | cons c s => exact odd_fin (sh := [p, q, (k, (c :: s))]) (pre := [p, q]) (k := k) (s := (c :: s)) (sk := []) (po := []) (by kernel_rfl) (by simp) (by simp) hr (.inr ⟨by simp, rfl⟩)
theorem odd_wp4 (p q r u : Pr) (hp : okP1 p = true) (hq : okP1 q = true) (hr : okP1 r = true) (hu : okP1 u = true) {E : MM.Ex → Prop} : G (m__law_odd_shapes [.cup, .tup ([p, q, r, u].map pd)]) Odd E := by
  refine g_runG (b := b__law_odd_shapes) (Q := Odd) ?_
  unfold b__law_odd_shapes
  refine g_mono (Q := post) ?_ (fun fl h => by cases fl <;> exact h)
  refine g_draw (t := rollM [.cup, .int 4]) (e := fun x => [.frz .cup, .frz (.tup ([p, q, r, u].map pd)), .frz x, .no, .no, .no, .no]) (by kernel_rfl) ?_
  refine roll_wp (by decide) (by decide) fun i hi => ?_
  have hc : i = 0 ∨ i = 1 ∨ i = 2 ∨ i = 3 := by omega
  rcases hc with h | h | h | h
  · subst h
    obtain ⟨k, s⟩ := p
    cases s with
    | nil => exact odd_fin (sh := [(k, []), q, r, u]) (pre := []) (k := k) (s := []) (sk := [120]) (po := [q, r, u]) (by kernel_rfl) (by simp) (by simp) hp (.inl ⟨rfl, rfl⟩)
    | cons c s => exact odd_fin (sh := [(k, (c :: s)), q, r, u]) (pre := []) (k := k) (s := (c :: s)) (sk := []) (po := [q, r, u]) (by kernel_rfl) (by simp) (by simp) hp (.inr ⟨by simp, rfl⟩)
  · subst h
    obtain ⟨k, s⟩ := q
    cases s with
    | nil => exact odd_fin (sh := [p, (k, []), r, u]) (pre := [p]) (k := k) (s := []) (sk := [120]) (po := [r, u]) (by kernel_rfl) (by simp) (by simp) hq (.inl ⟨rfl, rfl⟩)
    | cons c s => exact odd_fin (sh := [p, (k, (c :: s)), r, u]) (pre := [p]) (k := k) (s := (c :: s)) (sk := []) (po := [r, u]) (by kernel_rfl) (by simp) (by simp) hq (.inr ⟨by simp, rfl⟩)
  · subst h
    obtain ⟨k, s⟩ := r
    cases s with
    | nil => exact odd_fin (sh := [p, q, (k, []), u]) (pre := [p, q]) (k := k) (s := []) (sk := [120]) (po := [u]) (by kernel_rfl) (by simp) (by simp) hr (.inl ⟨rfl, rfl⟩)
    | cons c s => exact odd_fin (sh := [p, q, (k, (c :: s)), u]) (pre := [p, q]) (k := k) (s := (c :: s)) (sk := []) (po := [u]) (by kernel_rfl) (by simp) (by simp) hr (.inr ⟨by simp, rfl⟩)
  · subst h
    obtain ⟨k, s⟩ := u
    cases s with
    | nil => exact odd_fin (sh := [p, q, r, (k, [])]) (pre := [p, q, r]) (k := k) (s := []) (sk := [120]) (po := []) (by kernel_rfl) (by simp) (by simp) hu (.inl ⟨rfl, rfl⟩)
    | cons c s => exact odd_fin (sh := [p, q, r, (k, (c :: s))]) (pre := [p, q, r]) (k := k) (s := (c :: s)) (sk := []) (po := []) (by kernel_rfl) (by simp) (by simp) hu (.inr ⟨by simp, rfl⟩)
theorem odd_wp {sh : List Pr} (h2 : 2 ≤ sh.length) (h4 : sh.length ≤ 4) (ho : sh.all okP1 = true) {E : MM.Ex → Prop} : G (m__law_odd_shapes [.cup, .tup (sh.map pd)]) Odd E := by
  match sh, h2, h4, ho with
  | [p, q], _, _, ho =>
    simp only [List.all_cons, List.all_nil, Bool.and_true, Bool.and_eq_true] at ho
    exact odd_wp2 p q ho.1 ho.2
  | [p, q, r], _, _, ho =>
    simp only [List.all_cons, List.all_nil, Bool.and_true, Bool.and_eq_true] at ho
    exact odd_wp3 p q r ho.1 ho.2.1 ho.2.2
  | [p, q, r, u], _, _, ho =>
    simp only [List.all_cons, List.all_nil, Bool.and_true, Bool.and_eq_true] at ho
    exact odd_wp4 p q r u ho.1 ho.2.1 ho.2.2.1 ho.2.2.2
  | [], h, _, _ => exact absurd h (by simp)
  | [_], h, _, _ => exact absurd h (by simp)
  | _ :: _ :: _ :: _ :: _ :: _, _, h, _ => exact absurd h (by simp)
end Lk44

namespace Lk44
open PySem PySem.Spec L2 MM
theorem bad_is {o : D} (h : m_fits_shape [o] = .ret (.bl false)) : m_is_shape [o] = .ret (.bl false) := run_eq (ret_eq ((fn1_eq rfl).trans h))
theorem bad_name {o : D} (h : m_fits_shape [o] = .ret (.bl false)) : m_name_of [o] = .exc ⟨"InvalidPaper", none⟩ := by
  have hc : (MM.tNot (MM.tB (eFn 1 m_fits_shape (aCons (eVar 0) aNil)))) [.frz o] = .ret true := tNot_eq (k := false) (tB_eq ((fn1_eq rfl).trans h))
  unfold m_name_of runB
  rw [show b_name_of (startE 1 [o]) = (T.exc ⟨"InvalidPaper", none⟩ : T Fl) by
    unfold b_name_of sSeq
    rw [show startE 1 [o] = [.frz o] from rfl, if_t hc]
    rfl]
  rfl
theorem lam_paper : (runT N__law_error.length b__law_error (.exc ⟨"InvalidPaper", none⟩)).noX = .ret (.str [112, 97, 112, 101, 114]) := by kernel_rfl
theorem turn4 {o : D} (h : m_fits_shape [o] = .ret (.bl false)) {env : MM.Env} (hv : (eVar 10) env = .ret o) : (sIf (MM.tOr (MM.tB (e2 notBD (eFn 1 m_is_shape (aCons (eVar 10) aNil)) (eC (.bl false)))) (MM.tB (e2 neD (eLam (runT N__law_error.length b__law_error) (eFn 1 m_name_of (aCons (eVar 10) aNil))) (eC (.str [112, 97, 112, 101, 114]))))) (sRet (eC (.bl false))) sNx) env = .ret (.nx env) := by
  refine (if_f (tOr_eq (k := false) (l := false) (tB_eq (e2_eq (x := .bl false) (y := .bl false) ((fn1_eq hv).trans (bad_is h)) rfl rfl)) (tB_eq (e2_eq (x := .str [112, 97, 112, 101, 114]) (y := .str [112, 97, 112, 101, 114]) ?_ rfl rfl)))).trans rfl
  unfold eLam
  rw [(fn1_eq hv).trans (bad_name h)]
  exact lam_paper
theorem it4 (ss : List (List Nat)) (h0 : ss ≠ []) (hl : ss.length ≤ 3) (hn : ∀ s ∈ ss, isN s = true) (t n a s c e o x y f : Sl) {E : MM.Ex → Prop} {Q : List D → Prop} (hq : ∀ ds, (∀ o ∈ ds, m_fits_shape [o] = .ret (.bl false)) → Q ds) :
    G ((iSq (eFn 2 m__law_odd_shapes (aCons (eVar 1) (aCons (eFn 3 m__law_keyed (aCons (eVar 1) (aCons (eFn 2 m_some (aCons (eVar 1) (aCons (eVar 3) aNil))) (aCons (eVar 2) aNil)))) aNil)))) (EK ss t n a s c e o x y f)) Q E := by
  refine ⟨?_⟩
  rw [show (iSq (eFn 2 m__law_odd_shapes (aCons (eVar 1) (aCons (eFn 3 m__law_keyed (aCons (eVar 1) (aCons (eFn 2 m_some (aCons (eVar 1) (aCons (eVar 3) aNil))) (aCons (eVar 2) aNil)))) aNil)))) (EK ss t n a s c e o x y f) =
    (m_some [.cup, rows4]).bind fun z => (m__law_keyed [.cup, z, .lst (ss.map D.str)]).bind fun y => (m__law_odd_shapes [.cup, y]).bind fun d => ofO (itemsD d) by
      have e1 : (iSq (eFn 2 m__law_odd_shapes (aCons (eVar 1) (aCons (eFn 3 m__law_keyed (aCons (eVar 1) (aCons (eFn 2 m_some (aCons (eVar 1) (aCons (eVar 3) aNil))) (aCons (eVar 2) aNil)))) aNil)))) (EK ss t n a s c e o x y f) =
        (((((((m_some [.cup, rows4]).bind fun z => T.ret [z, .lst (ss.map D.str)]).bind fun xs => T.ret (D.cup :: xs)).bind fun xs => if lenL xs = 3 then m__law_keyed xs else .bad).bind fun y => T.ret [y]).bind fun xs => T.ret (D.cup :: xs)).bind (fun xs => if lenL xs = 2 then m__law_odd_shapes xs else .bad)).bind (fun d => ofO (itemsD d)) := by kernel_rfl
      rw [e1]
      simp only [T.bind_assoc, T.bind_ret]
      rfl, T.wp_bind]
  refine rows4_some fun ks k2 k4 => ?_
  rw [T.wp_bind]
  refine T.wp_mono (fun d hd => ?_) (fun _ z => z) (keyed_ok ks ss h0 hl hn)
  obtain ⟨sh, e1, e2, e3⟩ := hd
  subst e1
  have hlen : sh.length = ks.length := by rw [← e2]; simp [ksOf]
  rw [T.wp_bind]
  refine T.wp_mono (fun d hd => ?_) (fun _ z => z) (odd_wp (sh := sh) (by omega) (by omega) e3).h
  obtain ⟨ds, e4, e5⟩ := hd
  subst e4
  exact hq ds e5
theorem p4_g {b : MM.Env → T Fl} {Q : Fl → Prop} {E : MM.Ex → Prop} (ss : List (List Nat)) (h0 : ss ≠ []) (hl : ss.length ≤ 3) (hn : ∀ s ∈ ss, isN s = true) (t n a s c e x y f : Sl)
    (h : ∀ o : Sl, G (b (EK ss t n a s c e o x y f)) Q E) : G (sSeq p_4 b (EK ss t n a s c e .no x y f)) Q E := by
  unfold p_4
  refine g_for2 (P := fun ds => ∀ o ∈ ds, m_fits_shape [o] = .ret (.bl false)) (fun Q' hq => it4 ss h0 hl hn _ _ _ _ _ _ _ _ _ _ hq) (fun _ env => ∃ o, env = EK ss t n a s c e o x y f) ⟨_, rfl⟩ (fun ds hp i d hd env he => ?_) fun ds hp env he => ?_
  · obtain ⟨o, he⟩ := he
    subst he
    refine ⟨EK ss t n a s c e (.frz d) x y f, by kernel_rfl, ?_⟩
    exact g_of (turn4 (hp d (List.mem_of_getElem? hd)) (by kernel_rfl)) ⟨_, rfl⟩
  · obtain ⟨o, he⟩ := he
    subst he
    exact h o
end Lk44

namespace Lk44
open PySem PySem.Spec L2 MM
def SM : List (Nm × List (List Kd)) := [(.told, [[.r, .r], [.r, .t]]), (.circ, [[.o, .o], [.o, .t]]), (.unr, [[.s, .a]]), (.torn, [[.r, .a]]), (.late, [[.t, .a]]), (.miss, [[.r, .r, .a], [.r, .t, .a]]), (.lost, [[.o, .a]]), (.slow, [[.o, .a], [.o, .a, .t]]), (.lcau, [[.r, .a, .o], [.t, .a, .o]]), (.long, [[.r, .a, .r, .a], [.r, .a, .t, .a]]), (.fork, [[.o, .a, .o, .a], [.o, .a, .t, .a]]), (.skw, [[.a, .a]]), (.skc, [[.a, .a, .o], [.a, .a, .t]])]
def tk (ks : List Kd) : D := .tup (ks.map kd)
def sd (p : Nm × List (List Kd)) : D := .tup [.str (nc p.1), .tup (p.2.map tk)]
theorem sam_ok : c_SAMPLES = .tup (SM.map sd) := by kernel_rfl
def FN (w : Wd) (b : Bool) (n : Nm) (t : Bool) : Bool := if t && !b then false else stB n w
theorem FN_ok (sh : List Pr) (h : 2 ≤ sh.length) (w : Wd) (b : Bool) : lforbB w b (ksOf sh) = FN w b (nameG sh) (hasT (ksOf sh)) := by
  unfold FN
  rw [← strict_same sh h w]
  unfold lforbB
  cases hasT (ksOf sh) <;> cases b <;> simp
theorem any_map {α : Type} (c : α → Bool) : ∀ s : List α, anyD [.lst (s.map fun x => D.bl (c x))] = some (.bl (s.any c)) := by
  intro s
  have : ∀ s : List α, allBl (s.map fun x => D.bl (c x)) = some (s.map c) := by
    intro s
    induction s with
    | nil => rfl
    | cons a s ih => simp [allBl, ih]
  have h2 : ∀ s : List α, anyT (s.map c) = s.any c := by
    intro s
    induction s with
    | nil => rfl
    | cons a s ih => simp [anyT, ih]
  simp only [anyD, this, Option.map_some, h2]
def hit (w1 : Wd) (b1 : Bool) (w2 : Wd) (b2 : Bool) (p : Nm × List (List Kd)) : Bool := p.2.any fun ks => forbB w2 b2 ks && !forbB w1 b1 ks
theorem need_c (w : Wd) (b : Bool) : m_need_condition [.str (cc w b)] = .ret .non := by cases w <;> cases b <;> kernel_rfl
theorem SM_ne : ∀ p ∈ SM, ∀ ks ∈ p.2, ks ≠ [] ∧ ks.length ≤ 100000 := by decide
theorem eNot_eq {f1 : MM.Env → T D} {env : MM.Env} {k : Bool} (h : f1 env = .ret (.bl k)) : (eNot f1) env = .ret (.bl (!k)) := by unfold eNot; rw [h, T.bind_ret]; rfl
def EG (w1 : Wd) (b1 : Bool) (w2 : Wd) (b2 : Bool) (ns : List Nm) (a b c : Sl) : MM.Env := [.frz (.str (cc w1 b1)), .frz (.str (cc w2 b2)), .own (.lst (ns.map fun n => .str (nc n))), a, b, c]
theorem gap_cond (w1 : Wd) (b1 : Bool) (w2 : Wd) (b2 : Bool) (ns : List Nm) (n : D) (l : List (List Kd)) (c : Sl) (hl : ∀ ks ∈ l, ks ≠ [] ∧ ks.length ≤ 100000) :
    (MM.tB (eCall anyD (aCons (eComp (iSq (eVar 4)) [5] (sName 5) tYesB (eAnd (eFn 2 m_forbids_kinds (aCons (eVar 1) (aCons (eVar 5) aNil))) (eNot (eFn 2 m_forbids_kinds (aCons (eVar 0) (aCons (eVar 5) aNil)))))) aNil))) (EG w1 b1 w2 b2 ns (.frz n) (.frz (.tup (l.map tk))) c) = .ret (l.any fun ks => forbB w2 b2 ks && !forbB w1 b1 ks) := by
  refine tB_eq (call1_eq (eComp_all (xs := l) (f := tk) (fun ks => .bl (forbB w2 b2 ks && !forbB w1 b1 ks)) (by kernel_rfl) fun ks hk => ⟨EG w1 b1 w2 b2 ns (.frz n) (.frz (.tup (l.map tk))) (.frz (tk ks)), by kernel_rfl, ?_⟩) (any_map _ _))
  obtain ⟨h0, h1⟩ := hl ks hk
  exact eAnd_eq ((fn2_eq (x := .str (cc w2 b2)) (y := tk ks) (by kernel_rfl) (by kernel_rfl)).trans (forb_ok w2 b2 ks h0 h1)) (eNot_eq ((fn2_eq (x := .str (cc w1 b1)) (y := tk ks) (by kernel_rfl) (by kernel_rfl)).trans (forb_ok w1 b1 ks h0 h1)))
theorem gap_wp (w1 : Wd) (b1 : Bool) (w2 : Wd) (b2 : Bool) {E : MM.Ex → Prop} : (m_gap_names [.str (cc w1 b1), .str (cc w2 b2)]).wp (fun d => d = .tup (((SM.filter (hit w1 b1 w2 b2)).map (·.1)).map fun n => .str (nc n))) E := by
  refine g_run ?_
  unfold b_gap_names
  have s0 : startE 6 [.str (cc w1 b1), .str (cc w2 b2)] = [.frz (.str (cc w1 b1)), .frz (.str (cc w2 b2)), .no, .no, .no, .no] := by kernel_rfl
  rw [s0]
  refine g_go (e' := [.frz (.str (cc w1 b1)), .frz (.str (cc w2 b2)), .no, .no, .no, .no]) ?_ (g_go (e' := [.frz (.str (cc w1 b1)), .frz (.str (cc w2 b2)), .no, .no, .no, .no]) ?_ (g_go (e' := EG w1 b1 w2 b2 [] .no .no .no) (by kernel_rfl) ?_))
  · unfold sDrop
    rw [(fn1_eq (x := .str (cc w1 b1)) (by kernel_rfl)).trans (need_c w1 b1)]
    rfl
  · unfold sDrop
    rw [(fn1_eq (x := .str (cc w2 b2)) (by kernel_rfl)).trans (need_c w2 b2)]
    rfl
  refine g_for2 (P := fun ds => ds = SM.map sd) (fun Q' hq => g_of (a := SM.map sd) (by rw [sam_ok]; kernel_rfl) (hq _ rfl)) (fun i e => ∃ a b c, e = EG w1 b1 w2 b2 (((SM.take i).filter (hit w1 b1 w2 b2)).map (·.1)) a b c) ⟨_, _, _, rfl⟩ (fun ds hp i d hd e he => ?_) (fun ds hp e he => ?_)
  · obtain ⟨a, b, c, he⟩ := he
    subst he hp
    rw [List.getElem?_map] at hd
    obtain ⟨p, hp, hd⟩ := Option.map_eq_some_iff.mp hd
    subst hd
    obtain ⟨n, l⟩ := p
    refine ⟨EG w1 b1 w2 b2 (((SM.take i).filter (hit w1 b1 w2 b2)).map (·.1)) (.frz (.str (nc n))) (.frz (.tup (l.map tk))) c, by kernel_rfl, ?_⟩
    have hc := gap_cond w1 b1 w2 b2 (((SM.take i).filter (hit w1 b1 w2 b2)).map (·.1)) (.str (nc n)) l c (SM_ne _ (List.mem_of_getElem? hp))
    have ht : SM.take (i + 1) = SM.take i ++ [(n, l)] := by
      rw [List.take_add_one, hp]
      rfl
    have hlen : (((SM.take i).filter (hit w1 b1 w2 b2)).map (·.1)).length ≤ 13 := by
      rw [List.length_map]
      refine Nat.le_trans (List.length_filter_le _ _) (Nat.le_trans (List.length_take_le _ _) ?_)
      have : i < SM.length := (List.getElem?_eq_some_iff.mp hp).1
      exact Nat.le_of_lt this
    cases hh : (l.any fun ks => forbB w2 b2 ks && !forbB w1 b1 ks) with
    | true =>
      rw [hh] at hc
      refine g_of (a := Fl.nx (EG w1 b1 w2 b2 ((((SM.take i).filter (hit w1 b1 w2 b2)).map (·.1)) ++ [n]) (.frz (.str (nc n))) (.frz (.tup (l.map tk))) c)) ((if_t hc).trans ?_) ⟨.frz (.str (nc n)), .frz (.tup (l.map tk)), c, ?_⟩
      · unfold sApp
        show (T.ret (D.str (nc n))).bind _ = _
        rw [T.bind_ret, if_pos (by rw [List.length_map]; omega)]
        unfold EG
        rw [List.map_append]
        rfl
      · rw [ht, List.filter_append, List.map_append]
        rw [show [(n, l)].filter (hit w1 b1 w2 b2) = [(n, l)] by rw [List.filter_cons, show hit w1 b1 w2 b2 (n, l) = true from hh]; rfl]
        rfl
    | false =>
      rw [hh] at hc
      refine g_of (a := Fl.nx (EG w1 b1 w2 b2 (((SM.take i).filter (hit w1 b1 w2 b2)).map (·.1)) (.frz (.str (nc n))) (.frz (.tup (l.map tk))) c)) ((if_f hc).trans rfl) ⟨.frz (.str (nc n)), .frz (.tup (l.map tk)), c, ?_⟩
      rw [ht, List.filter_append, List.map_append]
      rw [show [(n, l)].filter (hit w1 b1 w2 b2) = [] by rw [List.filter_cons, show hit w1 b1 w2 b2 (n, l) = false from hh]; rfl]
      rw [List.map_nil, List.append_nil]
  · obtain ⟨a, b, c, he⟩ := he
    subst he hp
    refine g_of (ret_eq (x := .tup (((SM.filter (hit w1 b1 w2 b2)).map (·.1)).map fun n => .str (nc n))) ?_) rfl
    rw [show SM.take (SM.map sd).length = SM by rfl]
    exact call1_eq (x := .lst (((SM.filter (hit w1 b1 w2 b2)).map (·.1)).map fun n => .str (nc n))) (by kernel_rfl) rfl
end Lk44

namespace Lk44
open PySem PySem.Spec L2 MM
def keysFor (ks : List Kd) : List (List Nat) := if ks.length = 2 then [[120, 120], [120, 121]] else [[120, 120, 120, 120]]
def shOf (ks : List Kd) (key : List Nat) : List Pr := (ks.zip key).map fun p => (p.1, if noKey p.1 then [] else [p.2])
theorem shOf_ks {ks : List Kd} {key : List Nat} (h : ks.length ≤ key.length) : ksOf (shOf ks key) = ks := by
  unfold ksOf shOf
  rw [List.map_map]
  exact List.map_fst_zip h
theorem shOf_len {ks : List Kd} {key : List Nat} (h : ks.length ≤ key.length) : (shOf ks key).length = ks.length := by
  conv => rhs; rw [← shOf_ks h]
  simp [ksOf]
theorem keys_len {ks : List Kd} (h4 : ks.length ≤ 4) : ∀ key ∈ keysFor ks, ks.length ≤ key.length ∧ key.length ≤ 4 := by
  intro key hk
  unfold keysFor at hk
  split at hk
  · rename_i e
    simp only [List.mem_cons, List.not_mem_nil, or_false] at hk
    rcases hk with h | h <;> subst h <;> simp [e]
  · simp only [List.mem_cons, List.not_mem_nil, or_false] at hk
    subst hk
    simpa using h4
theorem hasK_put2 {k v j : D} : ∀ {kvs : List (D × D)}, (∀ x, MM.keyB x k = true → MM.keyB x j = MM.keyB k j) → hasK j (putD k v kvs) = (MM.keyB k j || hasK j kvs)
  | [], _ => rfl
  | (i, d) :: r, h => by
    simp only [putD]
    cases e : MM.keyB i k with
    | true =>
      simp only [if_true, hasK]
      rw [h i e]
      cases MM.keyB k j <;> simp
    | false =>
      simp only [Bool.false_eq_true, if_false, hasK, hasK_put2 h]
      cases MM.keyB k j <;> simp
theorem keyB_str (s t : List Nat) (x : D) (h : MM.keyB x (.str s) = true) : MM.keyB x (.str t) = MM.keyB (.str s) (.str t) := by
  cases x with
  | str u =>
    have : u = s := by
      have h' : eqNats u s = true := h
      rw [eqNats_eq] at h'
      exact of_decide_eq_true h'
    rw [this]
  | _ => cases h
theorem nc_eq (m n : Nm) : eqNats (nc m) (nc n) = decide (m = n) := by cases m <;> cases n <;> rfl
theorem put_has (m n : Nm) (v : D) (kvs : List (D × D)) : hasK (.str (nc n)) (putD (.str (nc m)) v kvs) = (decide (m = n) || hasK (.str (nc n)) kvs) := by
  rw [hasK_put2 fun x h => keyB_str _ _ x h]
  congr 1
  exact nc_eq m n
theorem put_len (k v : D) : ∀ kvs : List (D × D), (putD k v kvs).length ≤ kvs.length + 1
  | [] => by simp [putD]
  | (i, d) :: r => by
    simp only [putD]
    split
    · simp
    · simp only [List.length_cons]
      have := put_len k v r
      omega
def EB (w1 : Wd) (b1 : Bool) (w2 : Wd) (b2 : Bool) (kvs : List (D × D)) (a b c : Sl) : MM.Env := [.frz (.str (cc w1 b1)), .frz (.str (cc w2 b2)), .frz rows4, .own (.dic kvs), a, b, c, .no, .no, .no]
def putN (ks : List Kd) (key : List Nat) (kvs : List (D × D)) : List (D × D) := putD (.str (nc (nameG (shOf ks key)))) (.bl true) kvs
def inB : MM.Env → T Fl := (sSeq (sSet 6 (eCall tupleD (aCons (eComp (iArg zipD2 (aCons (eVar 4) (aCons (eVar 5) aNil))) [7, 8] (sTup [7, 8]) tYesB (eTup (aCons (eVar 7) (aCons (eIf (MM.tB (e2 inD (eVar 7) (eTup (aCons (eC (.str [115, 101, 115, 115, 105, 111, 110])) (aCons (eC (.str [116, 105, 109, 101])) aNil))))) (eC (.str [])) (eVar 8)) aNil)))) aNil)))
    (sPut 3 (eFn 1 m__law_shape_name (aCons (eVar 6) aNil)) (eC (.bl true))))
theorem in_turn (w1 : Wd) (b1 : Bool) (w2 : Wd) (b2 : Bool) (kvs : List (D × D)) (ks : List Kd) (key : List Nat) (c : Sl) (h2 : 2 ≤ ks.length) (h4 : ks.length ≤ key.length) (k4 : key.length ≤ 4) (hl : kvs.length < 16777216) :
    inB (EB w1 b1 w2 b2 kvs (.frz (tk ks)) (.frz (.str key)) c) = .ret (.nx (EB w1 b1 w2 b2 (putN ks key kvs) (.frz (tk ks)) (.frz (.str key)) (.frz (.tup ((shOf ks key).map pd))))) := by
  have hz : (iArg zipD2 (aCons (eVar 4) (aCons (eVar 5) aNil))) (EB w1 b1 w2 b2 kvs (.frz (tk ks)) (.frz (.str key)) c) = .ret ((ks.zip key).map fun p => .tup [kd p.1, .str [p.2]]) := by
    refine (show _ = ofO (zipD2 [.tup (ks.map kd), .str key]) by kernel_rfl).trans ?_
    rw [show zipD2 [.tup (ks.map kd), .str key] = some (zipL (ks.map kd) (key.map fun c => .str [c])) by
      show (if ((ks.map kd).length ≤ 16777216 && (key.map fun c => D.str [c]).length ≤ 16777216) = true then _ else _) = _
      rw [if_pos (by simp; omega)], zipL_map]
    rfl
  have hs : (eCall tupleD (aCons (eComp (iArg zipD2 (aCons (eVar 4) (aCons (eVar 5) aNil))) [7, 8] (sTup [7, 8]) tYesB (eTup (aCons (eVar 7) (aCons (eIf (MM.tB (e2 inD (eVar 7) (eTup (aCons (eC (.str [115, 101, 115, 115, 105, 111, 110])) (aCons (eC (.str [116, 105, 109, 101])) aNil))))) (eC (.str [])) (eVar 8)) aNil)))) aNil)) (EB w1 b1 w2 b2 kvs (.frz (tk ks)) (.frz (.str key)) c) = .ret (.tup ((shOf ks key).map pd)) := by
    refine tup_ok ?_
    rw [show (shOf ks key).map pd = (ks.zip key).map fun p => pd (p.1, if noKey p.1 then [] else [p.2]) by unfold shOf; rw [List.map_map]; rfl]
    refine eComp_all (xs := ks.zip key) (f := fun p => .tup [kd p.1, .str [p.2]]) _ hz fun p _ => ⟨[.frz (.str (cc w1 b1)), .frz (.str (cc w2 b2)), .frz rows4, .own (.dic kvs), .frz (tk ks), .frz (.str key), c, .frz (kd p.1), .frz (.str [p.2]), .no], by kernel_rfl, ?_⟩
    obtain ⟨k, x⟩ := p
    cases k <;> kernel_rfl
  have h100 : (shOf ks key).length ≤ 100000 := by rw [shOf_len h4]; omega
  unfold inB
  refine (seq_eq (set_eq hs (by show (6 : Nat) < 10; decide))).trans ?_
  unfold sPut
  have hn : (eFn 1 m__law_shape_name (aCons (eVar 6) aNil)) ((EB w1 b1 w2 b2 kvs (.frz (tk ks)) (.frz (.str key)) c).set 6 (.frz (.tup ((shOf ks key).map pd)))) = .ret (.str (nc (nameG (shOf ks key)))) :=
    (fn1_eq (x := .tup ((shOf ks key).map pd)) (by kernel_rfl)).trans (gname_ok _ (by rw [shOf_len h4]; exact h2) h100)
  show (T.ret (D.bl true)).bind _ = _
  rw [T.bind_ret]
  show ((eFn 1 m__law_shape_name (aCons (eVar 6) aNil)) ((EB w1 b1 w2 b2 kvs (.frz (tk ks)) (.frz (.str key)) c).set 6 (.frz (.tup ((shOf ks key).map pd))))).bind _ = _
  rw [hn, T.bind_ret, show isK (.str (nc (nameG (shOf ks key)))) = true from rfl, decide_eq_true hl]
  rfl
def addK (ks : List Kd) (kvs : List (D × D)) : List (D × D) := (keysFor ks).foldl (fun kv key => putN ks key kv) kvs
def inF : MM.Env → T Fl := sFor (iSq (eIf (MM.tB (e2 eqD (eCall lenD (aCons (eVar 4) aNil)) (eC (.int 2)))) (eTup (aCons (eC (.str [120, 120])) (aCons (eC (.str [120, 121])) aNil))) (eTup (aCons (eC (.str [120, 120, 120, 120])) aNil)))) (sName 5) inB
theorem forL_cons {tgt : D → MM.Env → Option MM.Env} {body : MM.Env → T Fl} {d : D} {ds : List D} {env e1 e2 : MM.Env} (h1 : tgt d env = some e1) (h2 : body e1 = .ret (.nx e2)) : forL tgt body (d :: ds) env = forL tgt body ds e2 := by
  show (ofO (tgt d env)).bind _ = _
  rw [h1]
  show (body e1).bind _ = _
  rw [h2]
  rfl
theorem in_for (w1 : Wd) (b1 : Bool) (w2 : Wd) (b2 : Bool) (ks : List Kd) (h2 : 2 ≤ ks.length) (h4 : ks.length ≤ 4) (kvs : List (D × D)) (b c : Sl) (hl : kvs.length < 16000000) :
    ∃ b' c', inF (EB w1 b1 w2 b2 kvs (.frz (tk ks)) b c) = .ret (.nx (EB w1 b1 w2 b2 (addK ks kvs) (.frz (tk ks)) b' c')) := by
  have hb : (MM.tB (e2 eqD (eCall lenD (aCons (eVar 4) aNil)) (eC (.int 2)))) (EB w1 b1 w2 b2 kvs (.frz (tk ks)) b c) = .ret (decide (ks.length = 2)) := by
    refine tB_eq (e2_eq (x := .int (ks.length : Nat)) (y := .int 2) (call1_eq (x := tk ks) (by kernel_rfl) (by simp [lenD, tk])) rfl ?_)
    rw [eqD_int]
    congr 2
    apply decide_eq_decide.mpr
    omega
  have st : ∀ (key : List Nat) (kv : List (D × D)) (b c : Sl), (sName 5) (.str key) (EB w1 b1 w2 b2 kv (.frz (tk ks)) b c) = some (EB w1 b1 w2 b2 kv (.frz (tk ks)) (.frz (.str key)) c) := fun _ _ _ _ => rfl
  by_cases e : ks.length = 2
  · rw [decide_eq_true e] at hb
    have hi : (iSq (eIf (MM.tB (e2 eqD (eCall lenD (aCons (eVar 4) aNil)) (eC (.int 2)))) (eTup (aCons (eC (.str [120, 120])) (aCons (eC (.str [120, 121])) aNil))) (eTup (aCons (eC (.str [120, 120, 120, 120])) aNil)))) (EB w1 b1 w2 b2 kvs (.frz (tk ks)) b c) = .ret [.str [120, 120], .str [120, 121]] := by
      unfold iSq eIf
      rw [hb]
      rfl
    have ha : addK ks kvs = putN ks [120, 121] (putN ks [120, 120] kvs) := by
      unfold addK keysFor
      rw [if_pos e]
      rfl
    refine ⟨.frz (.str [120, 121]), .frz (.tup ((shOf ks [120, 121]).map pd)), ?_⟩
    unfold inF sFor
    rw [hi, T.bind_ret, forL_cons (st _ _ _ _) (in_turn w1 b1 w2 b2 kvs ks [120, 120] c h2 (by simp [e]) (by simp) (by omega)), forL_cons (st _ _ _ _) (in_turn w1 b1 w2 b2 (putN ks [120, 120] kvs) ks [120, 121] _ h2 (by simp [e]) (by simp) (Nat.lt_of_le_of_lt (put_len _ _ _) (by omega)))]
    rw [ha]
    rfl
  · rw [decide_eq_false e] at hb
    have hi : (iSq (eIf (MM.tB (e2 eqD (eCall lenD (aCons (eVar 4) aNil)) (eC (.int 2)))) (eTup (aCons (eC (.str [120, 120])) (aCons (eC (.str [120, 121])) aNil))) (eTup (aCons (eC (.str [120, 120, 120, 120])) aNil)))) (EB w1 b1 w2 b2 kvs (.frz (tk ks)) b c) = .ret [.str [120, 120, 120, 120]] := by
      unfold iSq eIf
      rw [hb]
      rfl
    have ha : addK ks kvs = putN ks [120, 120, 120, 120] kvs := by
      unfold addK keysFor
      rw [if_neg e]
      rfl
    refine ⟨.frz (.str [120, 120, 120, 120]), .frz (.tup ((shOf ks [120, 120, 120, 120]).map pd)), ?_⟩
    unfold inF sFor
    rw [hi, T.bind_ret, forL_cons (st _ _ _ _) (in_turn w1 b1 w2 b2 kvs ks [120, 120, 120, 120] c h2 (by simpa using h4) (by simp) (by omega))]
    rw [ha]
    rfl
def tellK (ks : List Kd) (n : Nm) : Bool := (keysFor ks).any fun key => decide (nameG (shOf ks key) = n)
theorem addK_has (ks : List Kd) (n : Nm) : ∀ kvs : List (D × D), hasK (.str (nc n)) (addK ks kvs) = (tellK ks n || hasK (.str (nc n)) kvs) := by
  intro kvs
  unfold addK tellK
  generalize keysFor ks = L
  induction L generalizing kvs with
  | nil => simp
  | cons key L ih =>
    rw [List.foldl_cons, ih, List.any_cons]
    unfold putN
    rw [put_has]
    cases decide (nameG (shOf ks key) = n) <;> simp
theorem addK_len (ks : List Kd) (kvs : List (D × D)) : (addK ks kvs).length ≤ kvs.length + 2 := by
  have g : ∀ (L : List (List Nat)) (kvs : List (D × D)), (L.foldl (fun kv key => putN ks key kv) kvs).length ≤ kvs.length + L.length := by
    intro L
    induction L with
    | nil => intro kvs; simp
    | cons key L ih =>
      intro kvs
      rw [List.foldl_cons]
      have h1 := ih (putN ks key kvs)
      have h2 : (putN ks key kvs).length ≤ kvs.length + 1 := put_len _ _ _
      simp only [List.length_cons]
      omega
  have h3 : (keysFor ks).length ≤ 2 := by
    unfold keysFor
    split <;> simp
  have := g (keysFor ks) kvs
  unfold addK
  omega
def hitR (w1 : Wd) (b1 : Bool) (w2 : Wd) (b2 : Bool) (ks : List Kd) : Bool := lforbB w2 b2 ks && !lforbB w1 b1 ks
def AN : List Nm := SM.map (·.1)
theorem all_ok : m__law_all_names [] = .ret (.lst (AN.map fun n => .str (nc n))) := by kernel_rfl
def toldN (w1 : Wd) (b1 : Bool) (w2 : Wd) (b2 : Bool) (L : List (List Kd)) (n : Nm) : Bool := L.any fun ks => hitR w1 b1 w2 b2 ks && tellK ks n
theorem between_wp (w1 : Wd) (b1 : Bool) (w2 : Wd) (b2 : Bool) {E : MM.Ex → Prop} : G (m__law_between [.str (cc w1 b1), .str (cc w2 b2), rows4]) (fun d => d = .tup ((AN.filter (toldN w1 b1 w2 b2 R24)).map fun n => .str (nc n))) E := by
  refine g_runG (b := b__law_between) ?_
  unfold b__law_between
  refine g_go (e' := EB w1 b1 w2 b2 [] .no .no .no) (by kernel_rfl) ?_
  refine g_for2 (P := fun ds => ds = R24.map tk) (fun Q' hq => g_of (a := R24.map tk) (by kernel_rfl) (hq _ rfl)) (fun i e => ∃ kvs a b c, e = EB w1 b1 w2 b2 kvs a b c ∧ kvs.length ≤ 2 * i ∧ ∀ n, hasK (.str (nc n)) kvs = toldN w1 b1 w2 b2 (R24.take i) n) ⟨[], _, _, _, rfl, by simp, fun n => rfl⟩ (fun ds hp i d hd e he => ?_) (fun ds hp e he => ?_)
  · obtain ⟨kvs, a, b, c, he, hl, hk⟩ := he
    subst he hp
    rw [List.getElem?_map] at hd
    obtain ⟨ks, hp, hd⟩ := Option.map_eq_some_iff.mp hd
    subst hd
    obtain ⟨h2, h4⟩ := R24_len ks (List.mem_of_getElem? hp)
    have hi : i < 1000 := Nat.lt_of_lt_of_le (List.getElem?_eq_some_iff.mp hp).1 (by decide +kernel)
    have ht : R24.take (i + 1) = R24.take i ++ [ks] := by
      rw [List.take_add_one, hp]
      rfl
    refine ⟨EB w1 b1 w2 b2 kvs (.frz (tk ks)) b c, by kernel_rfl, ?_⟩
    have hc : (MM.tAnd (MM.tB (eFn 2 m__law_forbids (aCons (eVar 1) (aCons (eVar 4) aNil)))) (MM.tNot (MM.tB (eFn 2 m__law_forbids (aCons (eVar 0) (aCons (eVar 4) aNil)))))) (EB w1 b1 w2 b2 kvs (.frz (tk ks)) b c) = .ret (hitR w1 b1 w2 b2 ks) :=
      tAnd_eq (tB_eq ((fn2_eq (x := .str (cc w2 b2)) (y := tk ks) (by kernel_rfl) (by kernel_rfl)).trans (lforb_ok w2 b2 ks (by omega)))) (tNot_eq (tB_eq ((fn2_eq (x := .str (cc w1 b1)) (y := tk ks) (by kernel_rfl) (by kernel_rfl)).trans (lforb_ok w1 b1 ks (by omega)))))
    have app : ∀ n, toldN w1 b1 w2 b2 (R24.take (i + 1)) n = (toldN w1 b1 w2 b2 (R24.take i) n || (hitR w1 b1 w2 b2 ks && tellK ks n)) := fun n => by
      rw [ht]
      unfold toldN
      rw [List.any_append]
      simp
    cases hh : hitR w1 b1 w2 b2 ks with
    | true =>
      rw [hh] at hc
      obtain ⟨b', c', hf⟩ := in_for w1 b1 w2 b2 ks h2 h4 kvs b c (by omega)
      refine g_of (a := Fl.nx (EB w1 b1 w2 b2 (addK ks kvs) (.frz (tk ks)) b' c')) ((if_t hc).trans hf) ⟨_, _, _, _, rfl, ?_, fun n => ?_⟩
      · have := addK_len ks kvs
        omega
      · rw [addK_has, hk n, app n, hh, Bool.true_and, Bool.or_comm]
    | false =>
      rw [hh] at hc
      refine g_of (a := Fl.nx (EB w1 b1 w2 b2 kvs (.frz (tk ks)) b c)) ((if_f hc).trans rfl) ⟨_, _, _, _, rfl, by omega, fun n => ?_⟩
      rw [hk n, app n, hh, Bool.false_and, Bool.or_false]
  · obtain ⟨kvs, a, b, c, he, hl, hk⟩ := he
    subst he hp
    have e0 : R24.take (R24.map tk).length = R24 := by rw [List.length_map]; exact List.take_length
    rw [e0] at hk
    refine g_of (ret_eq (x := .tup ((AN.filter (toldN w1 b1 w2 b2 R24)).map fun n => .str (nc n))) (tup_ok ?_)) rfl
    refine eComp_eq (xs := AN) (f := fun n => .str (nc n)) (toldN w1 b1 w2 b2 R24) (fun n => .str (nc n)) ?_ fun n _ => ⟨[.frz (.str (cc w1 b1)), .frz (.str (cc w2 b2)), .frz rows4, .own (.dic kvs), a, b, c, .no, .no, .frz (.str (nc n))], by kernel_rfl, tB_eq (e2_eq (x := .str (nc n)) (y := .dic kvs) (by kernel_rfl) (by kernel_rfl) ?_), fun _ => by kernel_rfl⟩
    · unfold iSq
      rw [show (eFn 0 m__law_all_names aNil) (EB w1 b1 w2 b2 kvs a b c) = m__law_all_names [] by kernel_rfl, all_ok]
      rfl
    · rw [← hk n]
      rfl
end Lk44

namespace Lk44
open PySem PySem.Spec L2 MM
def PT : List (Nm × Bool) := R24.flatMap fun ks => (keysFor ks).map fun key => (nameG (shOf ks key), hasT ks)
theorem told_pt (w1 : Wd) (b1 : Bool) (w2 : Wd) (b2 : Bool) (n : Nm) : toldN w1 b1 w2 b2 R24 n = PT.any fun p => decide (p.1 = n) && (FN w2 b2 p.1 p.2 && !FN w1 b1 p.1 p.2) := by
  unfold toldN PT
  rw [List.any_flatMap]
  have cong : ∀ (L : List (List Kd)), (∀ ks ∈ L, 2 ≤ ks.length ∧ ks.length ≤ 4) → (L.any fun ks => hitR w1 b1 w2 b2 ks && tellK ks n) = L.any fun ks => ((keysFor ks).map fun key => (nameG (shOf ks key), hasT ks)).any fun p => decide (p.1 = n) && (FN w2 b2 p.1 p.2 && !FN w1 b1 p.1 p.2) := by
    intro L
    induction L with
    | nil => intro _; rfl
    | cons ks L ih =>
      intro h
      rw [List.any_cons, List.any_cons, ih fun x hx => h x (List.mem_cons_of_mem _ hx)]
      congr 1
      obtain ⟨h2, h4⟩ := h ks List.mem_cons_self
      have kl := keys_len h4
      unfold tellK
      rw [List.any_map]
      generalize keysFor ks = M at kl
      induction M with
      | nil => simp
      | cons key M ihM =>
        have hk := (kl key List.mem_cons_self).1
        have e2 := FN_ok (shOf ks key) (by rw [shOf_len hk]; exact h2) w2 b2
        have e1 := FN_ok (shOf ks key) (by rw [shOf_len hk]; exact h2) w1 b1
        rw [shOf_ks hk] at e1 e2
        rw [List.any_cons, List.any_cons, ← ihM fun k hk => kl k (List.mem_cons_of_mem _ hk)]
        show (hitR w1 b1 w2 b2 ks && _) = ((decide (nameG (shOf ks key) = n) && (FN w2 b2 (nameG (shOf ks key)) (hasT ks) && !FN w1 b1 (nameG (shOf ks key)) (hasT ks))) || _)
        rw [← e1, ← e2]
        unfold hitR
        cases lforbB w2 b2 ks <;> cases lforbB w1 b1 ks <;> cases decide (nameG (shOf ks key) = n) <;> simp
  exact cong R24 R24_len
theorem any_pt (f : Nm → Bool → Bool) (n : Nm) : ∀ L : List (Nm × Bool), (L.any fun p => decide (p.1 = n) && f p.1 p.2) = ((L.contains (n, true) && f n true) || (L.contains (n, false) && f n false))
  | [] => by simp
  | (m, t) :: L => by
    rw [List.any_cons, any_pt f n L, List.contains_cons, List.contains_cons]
    by_cases e : m = n
    · subst e
      cases t <;> cases f m true <;> cases f m false <;> simp
    · have e' : ∀ u : Bool, ((n, u) == (m, t)) = false := fun u => beq_eq_false_iff_ne.mpr fun z => e (congrArg Prod.fst z).symm
      rw [e' true, e' false, decide_eq_false e]
      simp
def hasL (l : List (List Kd)) (t : Bool) : Bool := l.any fun ks => hasT ks == t
theorem any_hl (g : Bool → Bool) : ∀ l : List (List Kd), (l.any fun ks => g (hasT ks)) = ((hasL l true && g true) || (hasL l false && g false))
  | [] => by simp [hasL]
  | ks :: l => by
    rw [List.any_cons, any_hl g l]
    unfold hasL
    rw [List.any_cons, List.any_cons]
    cases hasT ks <;> cases g true <;> cases g false <;> simp
theorem table : ∀ p ∈ SM, PT.contains (p.1, true) = hasL p.2 true ∧ PT.contains (p.1, false) = hasL p.2 false := by decide +kernel
theorem sam_forb : ∀ p ∈ SM, ∀ ks ∈ p.2, ∀ q ∈ CN, forbB q.1 q.2 ks = FN q.1 q.2 p.1 (hasT ks) := by decide +kernel
theorem CN_all (w : Wd) (b : Bool) : (w, b) ∈ CN := by cases w <;> cases b <;> decide
theorem any_congr' {α : Type} {f g : α → Bool} : ∀ {l : List α}, (∀ x ∈ l, f x = g x) → l.any f = l.any g
  | [], _ => rfl
  | x :: l, h => by rw [List.any_cons, List.any_cons, h x List.mem_cons_self, any_congr' fun y hy => h y (List.mem_cons_of_mem _ hy)]
theorem hit_told (w1 : Wd) (b1 : Bool) (w2 : Wd) (b2 : Bool) : ∀ p ∈ SM, toldN w1 b1 w2 b2 R24 p.1 = hit w1 b1 w2 b2 p := by
  intro p hp
  obtain ⟨t1, t2⟩ := table p hp
  rw [told_pt, any_pt (fun m t => FN w2 b2 m t && !FN w1 b1 m t) p.1 PT, t1, t2]
  have sf := sam_forb p hp
  have : hit w1 b1 w2 b2 p = p.2.any fun ks => (fun t => FN w2 b2 p.1 t && !FN w1 b1 p.1 t) (hasT ks) := by
    unfold hit
    exact any_congr' fun ks hk => by rw [sf ks hk _ (CN_all w2 b2), sf ks hk _ (CN_all w1 b1)]
  rw [this, any_hl fun t => FN w2 b2 p.1 t && !FN w1 b1 p.1 t]
theorem gap_same (w1 : Wd) (b1 : Bool) (w2 : Wd) (b2 : Bool) : (SM.filter (hit w1 b1 w2 b2)).map (·.1) = AN.filter (toldN w1 b1 w2 b2 R24) := by
  unfold AN
  rw [List.filter_map]
  congr 1
  exact List.filter_congr fun p hp => (hit_told w1 b1 w2 b2 p hp).symm
theorem g_tr {α : Type} {t t' : T α} {Q : α → Prop} {E : MM.Ex → Prop} (h : t = t') (g : G t' Q E) : G t Q E := by subst h; exact g
theorem g_bind {α β : Type} {t : T α} {f : α → T β} {Q : β → Prop} {E : MM.Ex → Prop} (g : G t (fun a => G (f a) Q E) E) : G (t.bind f) Q E := by
  refine ⟨?_⟩
  rw [T.wp_bind]
  exact T.wp_mono (fun a h => h.h) (fun _ z => z) g.h
theorem cond_some {Q : D → Prop} {E : MM.Ex → Prop} (h : ∀ w b, Q (.str (cc w b))) : G (m_some [.cup, .lst (CN.map cd)]) Q E := by
  refine ⟨some_lst (by decide) (by decide) fun d hd => ?_⟩
  obtain ⟨q, _, e⟩ := List.mem_map.mp hd
  subst e
  exact h q.1 q.2
theorem gap_g (w1 : Wd) (b1 : Bool) (w2 : Wd) (b2 : Bool) {E : MM.Ex → Prop} : G (m_gap_names [.str (cc w1 b1), .str (cc w2 b2)]) (fun d => d = .tup ((AN.filter (toldN w1 b1 w2 b2 R24)).map fun n => .str (nc n))) E := by
  rw [← gap_same]
  exact ⟨gap_wp w1 b1 w2 b2⟩
theorem turn5_eq (ss : List (List Nat)) (w1 : Wd) (b1 : Bool) (w2 : Wd) (b2 : Bool) (t n a s c e o f : Sl) : (sIf (MM.tNot (MM.tB (eFn 2 (r_like 8) (aCons (eFn 2 m_gap_names (aCons (eVar 11) (aCons (eVar 12) aNil))) (aCons (eFn 3 m__law_between (aCons (eVar 11) (aCons (eVar 12) (aCons (eVar 3) aNil)))) aNil))))) (sRet (eC (.bl false))) sNx) (EK ss t n a s c e o (.frz (.str (cc w1 b1))) (.frz (.str (cc w2 b2))) f) =
        (m_gap_names [.str (cc w1 b1), .str (cc w2 b2)]).bind fun x => (m__law_between [.str (cc w1 b1), .str (cc w2 b2), rows4]).bind fun y => (((r_like 8 [x, y]).bind fun z => ofO (isBl z)).bind fun k => T.ret (!k)).bind fun k => if k then T.ret (.rt (.bl false)) else T.ret (.nx (EK ss t n a s c e o (.frz (.str (cc w1 b1))) (.frz (.str (cc w2 b2))) f)) := by
  have e1 : (sIf (MM.tNot (MM.tB (eFn 2 (r_like 8) (aCons (eFn 2 m_gap_names (aCons (eVar 11) (aCons (eVar 12) aNil))) (aCons (eFn 3 m__law_between (aCons (eVar 11) (aCons (eVar 12) (aCons (eVar 3) aNil)))) aNil))))) (sRet (eC (.bl false))) sNx) (EK ss t n a s c e o (.frz (.str (cc w1 b1))) (.frz (.str (cc w2 b2))) f) =
        ((((((m_gap_names [.str (cc w1 b1), .str (cc w2 b2)]).bind fun x => ((m__law_between [.str (cc w1 b1), .str (cc w2 b2), rows4]).bind fun y => T.ret [y]).bind fun xs => T.ret (x :: xs)).bind fun xs => if lenL xs = 2 then r_like 8 xs else .bad).bind fun z => ofO (isBl z)).bind fun k => T.ret (!k)).bind fun k => if k then T.ret (.rt (.bl false)) else T.ret (.nx (EK ss t n a s c e o (.frz (.str (cc w1 b1))) (.frz (.str (cc w2 b2))) f))) := by kernel_rfl
  rw [e1]
  simp only [T.bind_assoc, T.bind_ret, lenL, if_true]
theorem turn5 (ss : List (List Nat)) (w1 : Wd) (b1 : Bool) (w2 : Wd) (b2 : Bool) (t n a s c e o f : Sl) {E : MM.Ex → Prop} :
    G ((sIf (MM.tNot (MM.tB (eFn 2 (r_like 8) (aCons (eFn 2 m_gap_names (aCons (eVar 11) (aCons (eVar 12) aNil))) (aCons (eFn 3 m__law_between (aCons (eVar 11) (aCons (eVar 12) (aCons (eVar 3) aNil)))) aNil))))) (sRet (eC (.bl false))) sNx) (EK ss t n a s c e o (.frz (.str (cc w1 b1))) (.frz (.str (cc w2 b2))) f))
      (fun fl => fl = .nx (EK ss t n a s c e o (.frz (.str (cc w1 b1))) (.frz (.str (cc w2 b2))) f)) E := by
  refine g_tr (turn5_eq ss w1 b1 w2 b2 t n a s c e o f) (g_bind (g_mono (gap_g w1 b1 w2 b2) fun x hx => g_bind (g_mono (between_wp w1 b1 w2 b2) fun y hy => ?_)))
  subst hx hy
  refine g_of (a := .nx (EK ss t n a s c e o (.frz (.str (cc w1 b1))) (.frz (.str (cc w2 b2))) f)) ?_ rfl
  rw [like_tup]
  rfl
theorem par5_eq (ss : List (List Nat)) (d : D) (n a s c e o x y f : Sl) : (sPar 11 12 (aCons (eFn 2 m_some (aCons (eVar 1) (aCons (eFn 0 m__law_conditions aNil) aNil))) (aCons (eFn 2 m_some (aCons (eVar 1) (aCons (eFn 0 m__law_conditions aNil) aNil))) aNil))) (EK ss (.frz d) n a s c e o x y f) =
      (m_some [.cup, .lst (CN.map cd)]).bind fun p => (m_some [.cup, .lst (CN.map cd)]).bind fun q => T.ret (.nx (EK ss (.frz d) n a s c e o (.frz p) (.frz q) f)) := by
  have e1 : (sPar 11 12 (aCons (eFn 2 m_some (aCons (eVar 1) (aCons (eFn 0 m__law_conditions aNil) aNil))) (aCons (eFn 2 m_some (aCons (eVar 1) (aCons (eFn 0 m__law_conditions aNil) aNil))) aNil))) (EK ss (.frz d) n a s c e o x y f) =
          (((m_some [.cup, .lst (CN.map cd)]).bind fun p => ((m_some [.cup, .lst (CN.map cd)]).bind fun q => T.ret [q]).bind fun xs => T.ret (p :: xs)).bind fun xs => match xs with
            | [p, q] => T.ret (.nx (EK ss (.frz d) n a s c e o (.frz p) (.frz q) f))
            | _ => .bad) := by kernel_rfl
  rw [e1]
  simp only [T.bind_assoc, T.bind_ret]
theorem g_seq {a b : MM.Env → T Fl} {env : MM.Env} {Q : Fl → Prop} {E : MM.Ex → Prop} (h : G (a env) (fun fl => match fl with | .nx e => G (b e) Q E | f => Q f) E) : G (sSeq a b env) Q E := by
  refine ⟨seq_wp (T.wp_mono (fun fl q => ?_) (fun _ z => z) h.h)⟩
  cases fl with
  | nx e => exact G.h q
  | _ => exact q
theorem p5_g {b : MM.Env → T Fl} {Q : Fl → Prop} {E : MM.Ex → Prop} (ss : List (List Nat)) (t n a s c e o f : Sl)
    (h : ∀ t x y : Sl, G (b (EK ss t n a s c e o x y f)) Q E) : G (sSeq p_5 b (EK ss t n a s c e o .no .no f)) Q E := by
  unfold p_5
  refine g_for (ds := upto 6 0) (by kernel_rfl) (fun env => ∃ t x y : Sl, env = EK ss t n a s c e o x y f) ⟨_, _, _, rfl⟩ (fun d hd env he => ?_) (fun env he => ?_)
  · obtain ⟨t, x, y, he⟩ := he
    subst he
    refine ⟨EK ss (.frz d) n a s c e o x y f, by kernel_rfl, g_seq (g_tr (par5_eq ss d n a s c e o x y f) (g_bind (cond_some fun w1 b1 => g_bind (cond_some fun w2 b2 => g_of rfl ?_))))⟩
    refine g_mono (turn5 ss w1 b1 w2 b2 (.frz d) n a s c e o f) fun fl hf => ?_
    subst hf
    exact ⟨_, _, _, rfl⟩
  · obtain ⟨t, x, y, he⟩ := he
    subst he
    exact h t x y
end Lk44

namespace Lk44
open PySem PySem.Spec L2 MM
theorem ek_eq (ss : List (List Nat)) (t n a s c e o x y f : Sl) : EL (.frz (.lst (ss.map D.str))) (.frz rows4) t n a s c e o x y f = EK ss t n a s c e o x y f := rfl
theorem law_g : G (b_law (EL .no .no .no .no .no .no .no .no .no .no .no .no)) lawPost fun _ => False := by
  unfold b_law
  refine p0_g fun ss h0 hl hn => ?_
  refine g_go (p1_eq _ _ _ _ _ _ _ _ _ _ _ _) ?_
  rw [ek_eq]
  refine p2_g ss h0 hl hn fun t n => ?_
  refine g_go (e' := EK ss t (.frz (.tup [kd .a, kd .a])) .no (.frz (.str [120, 121])) .no .no .no .no .no .no) (p3_eq _ _ _ _ _ _ _ _ _ _ _ _) ?_
  refine p4_g ss h0 hl hn _ _ _ _ _ _ _ _ _ fun o => ?_
  refine p5_g ss _ _ _ _ _ _ _ _ fun t x y => ?_
  refine g_go (p6_eq _ _ _ _ _ _ _ _ _ _ _ _) (g_go (p7_eq _ _ _ _ _ _ _ _ _ _ _ _) (g_of (p8_eq _ _ _ _ _ _ _ _ _ _ _) ?_))
  exact trivial
theorem pure_law : (b_law (lawEnv 14 1)).wp lawPost fun _ => False := by
  have e : lawEnv 14 1 = EL .no .no .no .no .no .no .no .no .no .no .no .no := by kernel_rfl
  rw [e]
  exact law_g.h
end Lk44

namespace Lk44
open PySem PySem.Spec L2 MM
/-! ### the head: facts by names, one run -/
def fa : List He.Fa := ([.glo "is_tuple_of", .glo "is_name", .glo "fits_condition", .glo "need_condition", .glo "conditions", .glo "word_of", .glo "sort_of", .glo "row_lets", .glo "forbids_kinds", .glo "are_kinds", .glo "forbidding", .glo "fits_pair", .glo "fits_shape", .glo "name_with_one", .glo "name_in", .glo "need_name", .glo "ring_names", .glo "is_shape", .glo "name_of", .glo "against", .glo "gap_names", .glo "_law_cup", .glo "_law_roll", .glo "_law_some", .glo "_law_sort", .glo "_law_like", .glo "_law_name", .glo "_law_names", .glo "_law_conditions", .glo "_law_forbids"] : List He.Fa) ++ ([.glo "_law_shape_name", .glo "_law_error", .glo "_law_rows", .glo "_law_keyed", .glo "_law_told", .glo "_law_all_names", .glo "_law_between", .glo "_law_odd_shapes", .glo "law", .free "abs", .free "all", .free "any", .free "bool", .free "dict", .free "int", .free "isinstance", .free "len", .free "list", .free "range", .free "sorted", .free "str", .free "tuple", .free "zip", .glo "InvalidCondition", .glo "InvalidName", .glo "InvalidPaper", .glo "OrderError", .exc "InvalidCondition", .exc "InvalidName", .exc "InvalidPaper"] : List He.Fa) ++ ([.exc "OrderError", .exm "InvalidCondition" "InvalidCondition" true, .exm "InvalidCondition" "InvalidName" false, .exm "InvalidCondition" "InvalidPaper" false, .exm "InvalidCondition" "OrderError" true, .exm "InvalidName" "InvalidCondition" false, .exm "InvalidName" "InvalidName" true, .exm "InvalidName" "InvalidPaper" false, .exm "InvalidName" "OrderError" true, .exm "InvalidPaper" "InvalidCondition" false, .exm "InvalidPaper" "InvalidName" false, .exm "InvalidPaper" "InvalidPaper" true, .exm "InvalidPaper" "OrderError" true, .glo "SHORT"] : List He.Fa)
def fn : List He.DefD := ([dd "is_tuple_of" s_is_tuple_of, dd "is_name" s_is_name, dd "fits_condition" s_fits_condition, dd "need_condition" s_need_condition, dd "conditions" s_conditions, dd "word_of" s_word_of, dd "sort_of" s_sort_of, dd "row_lets" s_row_lets, dd "forbids_kinds" s_forbids_kinds, dd "are_kinds" s_are_kinds, dd "forbidding" s_forbidding, dd "fits_pair" s_fits_pair, dd "fits_shape" s_fits_shape, dd "name_with_one" s_name_with_one, dd "name_in" s_name_in, dd "need_name" s_need_name, dd "ring_names" s_ring_names, dd "is_shape" s_is_shape, dd "name_of" s_name_of, dd "against" s_against, dd "gap_names" s_gap_names, dd "_law_cup" s__law_cup, dd "_law_roll" s__law_roll, dd "_law_some" s__law_some, dd "_law_sort" s__law_sort, dd "_law_like" s__law_like, dd "_law_name" s__law_name, dd "_law_names" s__law_names, dd "_law_conditions" s__law_conditions, dd "_law_forbids" s__law_forbids] : List He.DefD) ++ ([dd "_law_shape_name" s__law_shape_name, dd "_law_error" s__law_error, dd "_law_rows" s__law_rows, dd "_law_keyed" s__law_keyed, dd "_law_told" s__law_told, dd "_law_all_names" s__law_all_names, dd "_law_between" s__law_between, dd "_law_odd_shapes" s__law_odd_shapes, dd "law" s_law] : List He.DefD)
def ts : List He.Tab := [((fun K => He.ga K "SHORT"), ["session", "read", "time"])]
def tf : List He.Defn := [("law", none)]
def ex (K : PySem.W.Frag) : Bool := [conB K "LETTERS" c_LETTERS, conB K "DIGITS" c_DIGITS, conB K "NAME_LENGTH" c_NAME_LENGTH, conB K "KINDS" c_KINDS, conB K "STRICT" c_STRICT, conB K "CONDITIONS" c_CONDITIONS, conB K "BASE" c_BASE, conB K "SAMPLES" c_SAMPLES, dctB K (He.ga K "SHORT") c_SHORT, bareB K "SAMPLES"].all id
abbrev hk : PySem.W.Hook := He.hookX 6 fa fn ts tf ex
abbrev R : PySem.W.OpenRow := PySem.W.OpenLaw.row PySem.Challenge.rw_orderloom_k44_whole_names_of_shapes
def ob (s : PySem.W.SharedT) : He.AlX := He.obsX 6 fa fn ts tf ex (HandSHeadRun.getT s)
theorem ob_eq (s : PySem.W.SharedT) : ob s = hk.obs s.abs := He.obsX_eq (HandSHeadRun.getT_eq s)
def names : List PySem.Str := (["OrderError", "InvalidName", "InvalidCondition", "InvalidPaper", "LETTERS", "DIGITS", "NAME_LENGTH", "is_tuple_of", "is_name", "KINDS", "STRICT", "CONDITIONS", "fits_condition", "need_condition", "conditions", "BASE", "word_of", "sort_of", "row_lets", "forbids_kinds", "are_kinds", "forbidding", "SAMPLES", "SHORT", "fits_pair", "fits_shape", "name_with_one", "name_in", "need_name", "ring_names"] : List PySem.Str) ++ (["is_shape", "name_of", "against", "gap_names", "_law_cup", "_law_roll", "_law_some", "_law_sort", "_law_like", "_law_name", "_law_names", "_law_conditions", "_law_forbids", "_law_shape_name", "_law_error", "_law_rows", "_law_keyed", "_law_told", "_law_between", "_law_all_names", "_law_odd_shapes"] : List PySem.Str)
theorem run (w : World) : HandSHeadRun.RunEq R (PySem.W.view R.prog [58]) hk ob 6000 names w := by
  refine PySem.W.byRow2 "special-get-raises" (P := fun w => HandSHeadRun.RunEq R (PySem.W.view R.prog [58]) hk ob 6000 names w) (fun w os => ?_) (fun w os => ?_) w
  · kernel_rfl
  · kernel_rfl
theorem facts {w : World} {h : Heap} {mg : Str → Option Value} {f0 : Addr} (Y : hk.says w h) (G : h.Ns mainGlobals mg) (hm : mg "law" = some (.ref f0)) : ∃ K : PySem.W.Frag, K.In h ∧ LamX.LawAtS PySem.Challenge.rw_orderloom_k44_whole_names_of_shapes w K (L2.CX (PySem.Challenge.rw_orderloom_k44_whole_names_of_shapes).prog w) 11 63 "script" mg f0 h := by
  obtain ⟨K, KX, Y⟩ := Y
  have c := Y.t.d
  have hex := Y.more
  simp only [ex, List.all_cons, List.all_nil, Bool.and_eq_true, id] at hex
  obtain ⟨e0, e1, e2, e3, e4, e5, e6, e7, e8, e9, _⟩ := hex
  obtain ⟨fd, FD⟩ := c.def_ 38 (d := dd "law" s_law) rfl
  have ef : f0 = He.fAd K ("law", none) := by
    have e := hm.symm.trans (He.glo_ok KX G (c.fact 38 (f := .glo "law") rfl))
    cases e
    rfl
  subst ef
  have FD : FunD K "law" "law" (defArgs s_law) (defBody s_law) (defScope s_law) [] [] (He.fAd K ("law", none)) fd := FD
  have Fl := He5.fun_of (st := s_law) FD
  have bA := FunD.bindsA (ps := ["script"]) FD fun _ _ _ _ _ _ us hl => match us, hl with | [_], _ => rfl
  refine ⟨K, KX, fd, [He.cT K ("law", none)], spLaw K [((He.cT K ("law", none)).2, "law.<locals>.<lambda>")], ?_, ?_, ?_, fun s u => bA s [u] rfl, fun H a ns hl _ hT hS => ⟨a, ns, rfl, hS, hl, ?_, fun _ => rfl⟩, fun base KB GB TB => ?_⟩
  · intro p hp
    simp only [List.mem_cons, List.not_mem_nil, or_false] at hp
    rcases hp with rfl
    · exact Y.empty _ (by simp [tf])
  · intro p hp
    simp only [List.mem_cons, List.not_mem_nil, or_false] at hp
    rcases hp with rfl
    · exact Y.out _ (by simp [tf])
  · intro p hp
    simp only [List.mem_cons, List.not_mem_nil, or_false] at hp
    rcases hp with rfl
    · exact PySem.W.codeHd_of_K KX (Y.hd _ (by simp [tf]))
  · intro p hp
    simp only [List.mem_cons, List.not_mem_nil, or_false] at hp
    rcases hp with rfl
    · exact LamX.TabS.nil (hT (He.cT K ("law", none)) (by simp))
  have X : TX K w mg base [((He.cT K ("law", none)).2, "law.<locals>.<lambda>")] := ⟨defAt_of KX G c 0 0 (fun _ _ _ _ _ _ us hl => match us, hl with | [_, _, _], _ => rfl),
    defAt_of KX G c 1 1 (fun _ _ _ _ _ _ us hl => match us, hl with | [_], _ => rfl),
    defAt_of KX G c 2 2 (fun _ _ _ _ _ _ us hl => match us, hl with | [_], _ => rfl),
    defAt_of KX G c 3 3 (fun _ _ _ _ _ _ us hl => match us, hl with | [_], _ => rfl),
    defAt_of KX G c 4 4 (fun _ _ _ _ _ _ us hl => match us, hl with | [], _ => rfl),
    defAt_of KX G c 5 5 (fun _ _ _ _ _ _ us hl => match us, hl with | [_], _ => rfl),
    defAt_of KX G c 6 6 (fun _ _ _ _ _ _ us hl => match us, hl with | [_], _ => rfl),
    defAt_of KX G c 7 7 (fun _ _ _ _ _ _ us hl => match us, hl with | [_, _], _ => rfl),
    defAt_of KX G c 8 8 (fun _ _ _ _ _ _ us hl => match us, hl with | [_, _], _ => rfl),
    defAt_of KX G c 9 9 (fun _ _ _ _ _ _ us hl => match us, hl with | [_], _ => rfl),
    defAt_of KX G c 10 10 (fun _ _ _ _ _ _ us hl => match us, hl with | [_], _ => rfl),
    defAt_of KX G c 11 11 (fun _ _ _ _ _ _ us hl => match us, hl with | [_], _ => rfl),
    defAt_of KX G c 12 12 (fun _ _ _ _ _ _ us hl => match us, hl with | [_], _ => rfl),
    defAt_of KX G c 13 13 (fun _ _ _ _ _ _ us hl => match us, hl with | [_, _], _ => rfl),
    defAt_of KX G c 14 14 (fun _ _ _ _ _ _ us hl => match us, hl with | [_], _ => rfl),
    defAt_of KX G c 15 15 (fun _ _ _ _ _ _ us hl => match us, hl with | [_], _ => rfl),
    defAt_of KX G c 16 16 (fun _ _ _ _ _ _ us hl => match us, hl with | [], _ => rfl),
    defAt_of KX G c 17 17 (fun _ _ _ _ _ _ us hl => match us, hl with | [_], _ => rfl),
    defAt_of KX G c 18 18 (fun _ _ _ _ _ _ us hl => match us, hl with | [_], _ => rfl),
    defAt_of KX G c 19 19 (fun _ _ _ _ _ _ us hl => match us, hl with | [_], _ => rfl),
    defAt_of KX G c 20 20 (fun _ _ _ _ _ _ us hl => match us, hl with | [_, _], _ => rfl),
    defAt_of KX G c 21 21 (fun _ _ _ _ _ _ us hl => match us, hl with | [_], _ => rfl),
    defAt_of KX G c 22 22 (fun _ _ _ _ _ _ us hl => match us, hl with | [_, _], _ => rfl),
    defAt_of KX G c 23 23 (fun _ _ _ _ _ _ us hl => match us, hl with | [_, _], _ => rfl),
    defAt_of KX G c 24 24 (fun _ _ _ _ _ _ us hl => match us, hl with | [_], _ => rfl),
    defAt_of KX G c 25 25 (fun _ _ _ _ _ _ us hl => match us, hl with | [_, _], _ => rfl),
    defAt_of KX G c 26 26 (fun _ _ _ _ _ _ us hl => match us, hl with | [_, _], _ => rfl),
    defAt_of KX G c 27 27 (fun _ _ _ _ _ _ us hl => match us, hl with | [_, _], _ => rfl),
    defAt_of KX G c 28 28 (fun _ _ _ _ _ _ us hl => match us, hl with | [], _ => rfl),
    defAt_of KX G c 29 29 (fun _ _ _ _ _ _ us hl => match us, hl with | [_, _], _ => rfl),
    defAt_of KX G c 30 30 (fun _ _ _ _ _ _ us hl => match us, hl with | [_], _ => rfl),
    defAt_of KX G c 31 31 (fun _ _ _ _ _ _ us hl => match us, hl with | [_], _ => rfl),
    defAt_of KX G c 32 32 (fun _ _ _ _ _ _ us hl => match us, hl with | [_], _ => rfl),
    defAt_of KX G c 33 33 (fun _ _ _ _ _ _ us hl => match us, hl with | [_, _, _], _ => rfl),
    defAt_of KX G c 34 34 (fun _ _ _ _ _ _ us hl => match us, hl with | [_], _ => rfl),
    defAt_of KX G c 35 35 (fun _ _ _ _ _ _ us hl => match us, hl with | [], _ => rfl),
    defAt_of KX G c 36 36 (fun _ _ _ _ _ _ us hl => match us, hl with | [_, _, _], _ => rfl),
    defAt_of KX G c 37 37 (fun _ _ _ _ _ _ us hl => match us, hl with | [_, _], _ => rfl),
    defAt_of KX G c 38 38 (fun _ _ _ _ _ _ us hl => match us, hl with | [_], _ => rfl),
    clsAt_of KX G c 53 57,
    clsAt_of KX G c 54 58,
    clsAt_of KX G c 55 59,
    clsAt_of KX G c 56 60,
    sub_of (sub_cons (exm_of' KX G c 53 53 61) (sub_cons (exm_of' KX G c 53 54 62) (sub_cons (exm_of' KX G c 53 55 63) (sub_cons (exm_of' KX G c 53 56 64) (sub_cons (exm_of' KX G c 54 53 65) (sub_cons (exm_of' KX G c 54 54 66) (sub_cons (exm_of' KX G c 54 55 67) (sub_cons (exm_of' KX G c 54 56 68) (sub_cons (exm_of' KX G c 55 53 69) (sub_cons (exm_of' KX G c 55 54 70) (sub_cons (exm_of' KX G c 55 55 71) (sub_cons (exm_of' KX G c 55 56 72) sub_nil)))))))))))),
    He.free_ok KX G (c.fact 39 (f := .free "abs") rfl),
    He.free_ok KX G (c.fact 40 (f := .free "all") rfl),
    He.free_ok KX G (c.fact 41 (f := .free "any") rfl),
    He.free_ok KX G (c.fact 42 (f := .free "bool") rfl),
    He.free_ok KX G (c.fact 43 (f := .free "dict") rfl),
    He.free_ok KX G (c.fact 44 (f := .free "int") rfl),
    He.free_ok KX G (c.fact 45 (f := .free "isinstance") rfl),
    He.free_ok KX G (c.fact 46 (f := .free "len") rfl),
    He.free_ok KX G (c.fact 47 (f := .free "list") rfl),
    He.free_ok KX G (c.fact 48 (f := .free "range") rfl),
    He.free_ok KX G (c.fact 49 (f := .free "sorted") rfl),
    He.free_ok KX G (c.fact 50 (f := .free "str") rfl),
    He.free_ok KX G (c.fact 51 (f := .free "tuple") rfl),
    He.free_ok KX G (c.fact 52 (f := .free "zip") rfl),
    con_ok KX G e0,
    con_ok KX G e1,
    con_ok KX G e2,
    con_ok KX G e3,
    con_ok KX G e4,
    con_ok KX G e5,
    con_ok KX G e6,
    con_ok KX G e7,
    (by obtain ⟨es, n, kd⟩ := Y.t.tab 0 (t := ((fun K => He.ga K "SHORT"), _)) rfl; exact dct_ok (He.glo_ok KX G (c.fact 73 (f := .glo "SHORT") rfl)) kd e8),
    bare_ok KX G e9⟩
  exact ok_law (P := (PySem.Challenge.rw_orderloom_k44_whole_names_of_shapes).prog) X pure_law Fl (code_at Fl) (TB _ (by simp)) (by simp) (by intro p hp _; simp only [List.mem_cons, List.not_mem_nil, or_false] at hp; subst hp; rfl)
end Lk44
open PySem PySem.W PySem.Calls PyProof.Rows
theorem PySem.Challenge.cw_orderloom_k44_whole_names_of_shapes_holds : PySem.Challenge.rw_orderloom_k44_whole_names_of_shapes.Holds := by
  w_on; o_law
  refine HandSHeadRun.head_any (r := OpenLaw.row PySem.Challenge.rw_orderloom_k44_whole_names_of_shapes) (q := view (OpenLaw.row PySem.Challenge.rw_orderloom_k44_whole_names_of_shapes).prog [58]) (H := Lk44.hk) (ob := Lk44.ob) (M := 6000) (loose := Lk44.names) (d := HandSHeadRun.topDef (OpenLaw.row PySem.Challenge.rw_orderloom_k44_whole_names_of_shapes).prog 58) (kwd := []) Lk44.ob_eq
    (by kernel_rfl) (fun s => by kernel_rfl) Lk44.run (by kernel_rfl) (by kernel_rfl) (by kernel_rfl) (by rfl) (by first | assumption | decide +kernel) (by decide +kernel) ⟨rfl, rfl, rfl, rfl, rfl, by decide +kernel⟩ ?hw ?hc
  case hw => w_witness2
  case hc =>
    refine LamX.walk_ofTsE (l := PySem.Challenge.rw_orderloom_k44_whole_names_of_shapes) (n := 63) (k := 11) (x := "script") (CX := fun w => L2.CX (PySem.Challenge.rw_orderloom_k44_whole_names_of_shapes).prog w) rfl (by decide) (by kernel_rfl) ⟨rfl, by decide, by decide⟩ ?F (fun w H s e s' h => MM.cx_false h)
    intro w mg fa h Y G hmg0
    have hmg : mg ("law" : PySem.Str) = some (.ref fa) := by
      have e : (HandSHeadRun.topDef (OpenLaw.row PySem.Challenge.rw_orderloom_k44_whole_names_of_shapes).prog 58).name = ("law" : PySem.Str) := by kernel_rfl
      rw [← e]
      exact hmg0
    exact Lk44.facts Y G hmg
