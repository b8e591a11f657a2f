import PyProof.Rows.All
import Wide.All
import OpenK.AllK
import Wide.FinOn
import KE.KStateDown
import Lean
import HandS.ForMost
import HandS.ForExc
import HandS.Defaults
import HandS.Head0
import HandS.Head1
import HandS.Head2
import HandS.HeadEnd
import HandS.HeadHook1
import HandS.HeadHook2
import PySem.Challenge.RW_roadshares_k82_whole_texts
import HandS.IsInst
import HandS.Style
import HandS.Wide
import HandS.TupAny
import HandS.TupMul
import HandS.TupLe
import HandS.Deep
import HandS.TupLen
import HandS.Small
import HandS.WordsExc
import PyProof.ListStr
import HandS.Conv
import HandS.Text
import HandS.StrMore
import HandS.FStr
import KE.SortData
import KE.KDictSum
import HandS.SortInts
import HandS.ExcIs
set_option Elab.async false
set_option linter.all false
set_option maxRecDepth 100000
set_option maxHeartbeats 4000000
/-! The data layer, part 1: data, worlds, states. -/
namespace DL
open PySem PySem.Spec PyProof.Rows L2

inductive D where
  | non | bl (b : Bool) | int (i : Int) | str (s : Str)
  | tup (ds : List D) | lst (ds : List D) | dct (ks : List (List Int)) (vs : List D)
  | scr (ns : List Int) | obj (n : Nat) | exc (C : Str) | fn (x : Str)

/-- what a slot holds: a value that nobody changes, a list or a dict of its own -/
inductive SV where
  | val (d : D) | own (ds : List D) | ownD (ks : List (List Int)) (vs : List D)

inductive MO where
  | lst (ds : List D) | ins (C : Str) (fs : List (Str × SV))

inductive Root where
  | slot (i : Nat) | res | obj (n : Nat) | hold
  deriving DecidableEq

structure Wd where
  F : Hp
  mm : List Addr
  lab : Addr → Option (Root × Nat)
  /-- what is held back for a while -/
  hold : List (Addr × HO)

/-- an exception object of the class at C -/
def ExcAt (a C : Addr) (h : Heap) : Prop := ∃ oe, PySem.W.InstAt h a oe C none

def keyT (ks : List (List Int)) : List (List Key) := ks.map fun k => k.map Sum.inl

def lim : Nat := 1000000
theorem lim_line {n : Nat} (h : n ≤ lim) : n ≤ sizeLine := Nat.le_trans h (by rw [sizeLine_eq]; decide)
/-- a text of true signs, not too long -/
def okS (s : Str) : Bool := PyData.strOk s && decide (s.length ≤ lim)
theorem okS.str {s : Str} (h : okS s = true) : PyData.strOk s = true := (Bool.and_eq_true_iff.mp h).1
theorem okS.len {s : Str} (h : okS s = true) : s.length ≤ lim := of_decide_eq_true (Bool.and_eq_true_iff.mp h).2

mutual
inductive Rep (K : PySem.W.Frag) (W : Wd) : V → D → Prop
  | non : Rep K W .non .non
  | bl (b : Bool) : Rep K W (.bl b) (.bl b)
  | int (i : Int) : Rep K W (.int i) (.int i)
  | str (s : Str) : okS s = true → Rep K W (.str s) (.str s)
  | tup {a : Addr} {vs : List V} {ds : List D} : W.F a = some (.tup vs) → Reps K W vs ds → Rep K W (.ref a) (.tup ds)
  | lst {a : Addr} {vs : List V} {ds : List D} : W.F a = some (.lst vs) → Reps K W vs ds → Rep K W (.ref a) (.lst ds)
  | dct {a : Addr} {kvs : List (List Key × V)} {ks : List (List Int)} {ds : List D} : W.F a = some (.dT kvs) → kvs.map (·.1) = keyT ks → Reps K W (kvs.map (·.2)) ds → Rep K W (.ref a) (.dct ks ds)
  | scr {a : Addr} {ns : List Int} : SqL K W.F a (ns.map V.int) → Rep K W (.ref a) (.scr ns)
  | obj {a : Addr} {n : Nat} : W.mm[n]? = some a → Rep K W (.ref a) (.obj n)
  | exc {a : Addr} {C : Str} : W.F a = some (.ext (ExcAt a (He.ga K C))) → Rep K W (.ref a) (.exc C)
  | fn (x : Str) : Rep K W (.ref (He.ga K x)) (.fn x)
inductive Reps (K : PySem.W.Frag) (W : Wd) : List V → List D → Prop
  | nil : Reps K W [] []
  | cons {v : V} {vs : List V} {d : D} {ds : List D} : Rep K W v d → Reps K W vs ds → Reps K W (v :: vs) (d :: ds)
end

structure Wd.Lm (W W' : Wd) : Prop where
  F : ∀ a o, W.F a = some o → W'.F a = some o
  mm : ∀ (n : Nat) (a : Addr), W.mm[n]? = some a → W'.mm[n]? = some a
structure Wd.Le (W W' : Wd) : Prop where
  F : ∀ a o, W.F a = some o → W'.F a = some o
  mm : ∀ (n : Nat) (a : Addr), W.mm[n]? = some a → W'.mm[n]? = some a
  hold : W'.hold = W.hold
theorem Wd.Le.m {W W' : Wd} (l : W.Le W') : W.Lm W' := ⟨l.F, l.mm⟩
theorem Wd.Le.refl (W : Wd) : W.Le W := ⟨fun _ _ h => h, fun _ _ h => h, rfl⟩
theorem Wd.Le.trans {W W1 W2 : Wd} (a : W.Le W1) (b : W1.Le W2) : W.Le W2 := ⟨fun c o h => b.F c o (a.F c o h), fun c o h => b.mm c o (a.mm c o h), b.hold.trans a.hold⟩

section
variable {K : PySem.W.Frag} {W W' : Wd}
mutual
theorem Rep.monoM (l : W.Lm W') : ∀ {v : V} {d : D}, Rep K W v d → Rep K W' v d
  | _, _, .non => .non
  | _, _, .bl b => .bl b
  | _, _, .int i => .int i
  | _, _, .str s h => .str s h
  | _, _, .tup h r => .tup (l.F _ _ h) (Reps.monoM l r)
  | _, _, .lst h r => .lst (l.F _ _ h) (Reps.monoM l r)
  | _, _, .dct h e r => .dct (l.F _ _ h) e (Reps.monoM l r)
  | _, _, .scr h => .scr (Same.seq (K := K) (H := W.F) (H' := W'.F) l.F h)
  | _, _, .obj h => .obj (l.mm _ _ h)
  | _, _, .exc h => .exc (l.F _ _ h)
  | _, _, .fn x => .fn x
theorem Reps.monoM (l : W.Lm W') : ∀ {vs : List V} {ds : List D}, Reps K W vs ds → Reps K W' vs ds
  | _, _, .nil => .nil
  | _, _, .cons h r => .cons (Rep.monoM l h) (Reps.monoM l r)
end
theorem Rep.mono (l : W.Le W') {v : V} {d : D} (h : Rep K W v d) : Rep K W' v d := h.monoM l.m
theorem Reps.mono (l : W.Le W') {vs : List V} {ds : List D} (h : Reps K W vs ds) : Reps K W' vs ds := h.monoM l.m
theorem Reps.length : ∀ {vs : List V} {ds : List D}, Reps K W vs ds → vs.length = ds.length
  | _, _, .nil => rfl
  | _, _, .cons _ r => congrArg (· + 1) (Reps.length r)
theorem Reps.get : ∀ {vs : List V} {ds : List D} {i : Nat} {d : D}, Reps K W vs ds → ds[i]? = some d → ∃ v, vs[i]? = some v ∧ Rep K W v d
  | _, _, _, _, .nil, e => by simp at e
  | _, _, 0, _, .cons h _, e => by simp at e; subst e; exact ⟨_, rfl, h⟩
  | _, _, i + 1, _, .cons _ r, e => by
    obtain ⟨v, h1, h2⟩ := Reps.get (i := i) r (by simpa using e)
    exact ⟨v, by simpa using h1, h2⟩
theorem Reps.getV : ∀ {vs : List V} {ds : List D} {i : Nat} {v : V}, Reps K W vs ds → vs[i]? = some v → ∃ d, ds[i]? = some d ∧ Rep K W v d
  | _, _, _, _, .nil, e => by simp at e
  | _, _, 0, _, .cons h _, e => by simp at e; subst e; exact ⟨_, rfl, h⟩
  | _, _, i + 1, _, .cons _ r, e => by
    obtain ⟨v, h1, h2⟩ := Reps.getV (i := i) r (by simpa using e)
    exact ⟨v, by simpa using h1, h2⟩
theorem Reps.append : ∀ {vs ws : List V} {ds es : List D}, Reps K W vs ds → Reps K W ws es → Reps K W (vs ++ ws) (ds ++ es)
  | _, _, _, _, .nil, s => s
  | _, _, _, _, .cons h r, s => .cons h (Reps.append r s)
theorem Reps.take : ∀ {vs : List V} {ds : List D} (n : Nat), Reps K W vs ds → Reps K W (vs.take n) (ds.take n)
  | _, _, 0, _ => .nil
  | _, _, _ + 1, .nil => .nil
  | _, _, n + 1, .cons h r => .cons h (Reps.take n r)
theorem Reps.drop : ∀ {vs : List V} {ds : List D} (n : Nat), Reps K W vs ds → Reps K W (vs.drop n) (ds.drop n)
  | _, _, 0, r => r
  | _, _, _ + 1, .nil => .nil
  | _, _, n + 1, .cons _ r => Reps.drop n r
theorem Reps.set : ∀ {vs : List V} {ds : List D} {v : V} {d : D} (i : Nat), Reps K W vs ds → Rep K W v d → Reps K W (vs.set i v) (ds.set i d)
  | _, _, _, _, _, .nil, _ => .nil
  | _, _, _, _, 0, .cons _ r, h => .cons h r
  | _, _, _, _, i + 1, .cons p r, h => .cons p (Reps.set i r h)
theorem Reps.reverse : ∀ {vs : List V} {ds : List D}, Reps K W vs ds → Reps K W vs.reverse ds.reverse
  | _, _, .nil => .nil
  | _, _, .cons h r => by
    rw [List.reverse_cons, List.reverse_cons]
    exact Reps.append (Reps.reverse r) (.cons h .nil)
theorem Reps.eraseIdx : ∀ {vs : List V} {ds : List D} (i : Nat), Reps K W vs ds → Reps K W (vs.eraseIdx i) (ds.eraseIdx i)
  | _, _, _, .nil => .nil
  | _, _, 0, .cons _ r => r
  | _, _, i + 1, .cons p r => .cons p (Reps.eraseIdx i r)
theorem Reps.dropLast : ∀ {vs : List V} {ds : List D}, Reps K W vs ds → Reps K W vs.dropLast ds.dropLast
  | _, _, .nil => .nil
  | _, _, .cons _ .nil => .nil
  | _, _, .cons p (.cons q r) => .cons p (Reps.dropLast (.cons q r))
theorem Reps.rep {v : V} {d : D} (h : Rep K W v d) : ∀ n : Nat, Reps K W (List.replicate n v) (List.replicate n d)
  | 0 => .nil
  | n + 1 => .cons h (Reps.rep h n)
theorem Reps.repL {vs : List V} {ds : List D} (h : Reps K W vs ds) : ∀ n : Nat, Reps K W (List.replicate n vs).flatten (List.replicate n ds).flatten
  | 0 => .nil
  | n + 1 => by
    rw [List.replicate_succ, List.replicate_succ, List.flatten_cons, List.flatten_cons]
    exact Reps.append h (Reps.repL h n)
end

/-! ### states -/
structure Bs where
  H : Hp
  F : Hp
  mm : List Addr
  O : Addr → Prop

def SvOk (K : PySem.W.Frag) (W : Wd) (H : Hp) (r : Root) (k : Nat) (sv : SV) (v : V) : Prop := match sv with
  | .val d => Rep K W v d
  | .own ds => ∃ a vs, v = .ref a ∧ W.lab a = some (r, k) ∧ H a = some (.lst vs) ∧ Reps K W vs ds
  | .ownD ks ds => ∃ a kvs, v = .ref a ∧ W.lab a = some (r, k) ∧ H a = some (.dT kvs) ∧ kvs.map (·.1) = keyT ks ∧ Reps K W (kvs.map (·.2)) ds

def MoOk (K : PySem.W.Frag) (W : Wd) (H : Hp) (n : Nat) (mo : MO) : Prop := match mo with
  | .lst ds => ∃ a vs, W.mm[n]? = some a ∧ W.lab a = some (.obj n, 0) ∧ H a = some (.lst vs) ∧ Reps K W vs ds
  | .ins C fs => ∃ a dx ws, W.mm[n]? = some a ∧ W.lab a = some (.obj n, 0) ∧ W.lab dx = some (.obj n, 1) ∧ H a = some (.ins (He.ga K C) dx ws) ∧ ws.length = fs.length ∧
      ∀ (k : Nat) (f : Str) (sv : SV), fs[k]? = some (f, sv) → ∃ v, ws[k]? = some (f, v) ∧ SvOk K W H (.obj n) (k + 2) sv v

structure Sx where
  ρ : List (Option SV)
  M : List MO

def isOwn : SV → Bool
  | .own _ => true
  | .ownD _ _ => true
  | _ => false
/-- somebody leans on what bears this label -/
def Live (s : Sx) : Root → Prop
  | .slot i => ∃ sv, s.ρ[i]? = some (some sv) ∧ isOwn sv = true
  | .obj n => ∃ mo, s.M[n]? = some mo
  | .res => False
  | .hold => True

def NT : HO → Bool
  | .tup _ => false
  | _ => true
structure StOk (K : PySem.W.Frag) (B : Bs) (W : Wd) (s : Sx) (σ : L2.St) (H : Hp) : Prop where
  sub : ∀ a o, W.F a = some o → H a = some o
  fl : ∀ a o, W.F a = some o → W.lab a = none
  lh : ∀ a l, W.lab a = some l → ∃ o, H a = some o ∧ NT o = true
  slots : ∀ (i : Nat) (sv : SV), s.ρ[i]? = some (some sv) → ∃ v, σ[i]? = some (some v) ∧ SvOk K W H (.slot i) 0 sv v
  objs : ∀ (n : Nat) (mo : MO), s.M[n]? = some mo → MoOk K W H n mo
  keep : ∀ a o, B.H a = some o → B.O a ∨ (W.lab a = none ∧ H a = some o)
  fext : ∀ a o, B.F a = some o → W.F a = some o
  fnew : ∀ a o, W.F a = some o → B.F a = some o ∨ B.H a = none ∨ B.O a ∨ NT o = false
  mmx : ∀ (n : Nat) (a : Addr), B.mm[n]? = some a → W.mm[n]? = some a
  mml : W.mm.length = s.M.length
  ob : ∀ a, B.O a → ∃ o, H a = some o
  len : σ.length = s.ρ.length
  hold : ∀ p, p ∈ W.hold → W.lab p.1 = some (.hold, 0) ∧ H p.1 = some p.2

/-- a frozen value of what an expression gives -/
def frz : SV → D
  | .val d => d
  | .own ds => .lst ds
  | .ownD ks ds => .dct ks ds

def updl (l : Addr → Option (Root × Nat)) (a : Addr) (x : Option (Root × Nat)) : Addr → Option (Root × Nat) := fun b => if b = a then x else l b
theorem updl_same {l : Addr → Option (Root × Nat)} {a : Addr} {x : Option (Root × Nat)} : updl l a x a = x := by unfold updl; rw [if_pos rfl]
theorem updl_ne {l : Addr → Option (Root × Nat)} {a b : Addr} {x : Option (Root × Nat)} (h : b ≠ a) : updl l a x b = l b := by unfold updl; rw [if_neg h]

section
variable {K : PySem.W.Frag} {B : Bs} {W W' : Wd} {s s' : Sx} {σ σ' : L2.St} {H H' : Hp}

/-- what an own value leans on stays -/
theorem SvOk.keepM {r : Root} {k : Nat} {sv : SV} {v : V} (h : SvOk K W H r k sv v) (l : W.Lm W') (hl : isOwn sv = true → ∀ a, W.lab a = some (r, k) → W'.lab a = some (r, k) ∧ H' a = H a) : SvOk K W' H' r k sv v := by
  cases sv with
  | val d => exact Rep.monoM l h
  | own ds =>
    obtain ⟨a, vs, e, h1, h2, h3⟩ := h
    obtain ⟨p, q⟩ := hl rfl a h1
    exact ⟨a, vs, e, p, by rw [q]; exact h2, h3.monoM l⟩
  | ownD ks ds =>
    obtain ⟨a, kvs, e, h1, h2, h3, h4⟩ := h
    obtain ⟨p, q⟩ := hl rfl a h1
    exact ⟨a, kvs, e, p, by rw [q]; exact h2, h3, h4.monoM l⟩
theorem MoOk.keepM {n : Nat} {mo : MO} (h : MoOk K W H n mo) (l : W.Lm W') (hl : ∀ a k, W.lab a = some (.obj n, k) → W'.lab a = some (.obj n, k) ∧ H' a = H a) : MoOk K W' H' n mo := by
  cases mo with
  | lst ds =>
    obtain ⟨a, vs, e, h1, h2, h3⟩ := h
    obtain ⟨p, q⟩ := hl a _ h1
    exact ⟨a, vs, l.mm _ _ e, p, by rw [q]; exact h2, h3.monoM l⟩
  | ins C fs =>
    obtain ⟨a, dx, ws, e, h1, h2, h3, h4, h5⟩ := h
    obtain ⟨p, q⟩ := hl a _ h1
    refine ⟨a, dx, ws, l.mm _ _ e, p, (hl dx _ h2).1, by rw [q]; exact h3, h4, fun k f sv hk => ?_⟩
    obtain ⟨v, h6, h7⟩ := h5 k f sv hk
    exact ⟨v, h6, h7.keepM l fun _ a h => hl a _ h⟩

theorem SvOk.keep {r : Root} {k : Nat} {sv : SV} {v : V} (h : SvOk K W H r k sv v) (l : W.Le W') (hl : isOwn sv = true → ∀ a, W.lab a = some (r, k) → W'.lab a = some (r, k) ∧ H' a = H a) : SvOk K W' H' r k sv v := h.keepM l.m hl
theorem MoOk.keep {n : Nat} {mo : MO} (h : MoOk K W H n mo) (l : W.Le W') (hl : ∀ a k, W.lab a = some (.obj n, k) → W'.lab a = some (.obj n, k) ∧ H' a = H a) : MoOk K W' H' n mo := h.keepM l.m hl
/-- a change of the world and the heap that leaves all labelled as it is -/
theorem StOk.step (h : StOk K B W s σ H) (l : W.Le W') (hl : ∀ a x, W.lab a = some x → Live s x.1 → W'.lab a = some x ∧ H' a = H a)
    (sub : ∀ a o, W'.F a = some o → H' a = some o) (fl : ∀ a o, W'.F a = some o → W'.lab a = none) (lh : ∀ a x, W'.lab a = some x → ∃ o, H' a = some o ∧ NT o = true)
    (keep : ∀ a o, B.H a = some o → B.O a ∨ (W'.lab a = none ∧ H' a = some o)) (fnew : ∀ a o, W'.F a = some o → B.F a = some o ∨ B.H a = none ∨ B.O a ∨ NT o = false) (ml : W'.mm.length = W.mm.length) (grow : ∀ a o, H a = some o → ∃ o', H' a = some o') : StOk K B W' s σ H' where
  sub := sub
  fl := fl
  lh := lh
  slots := fun i sv e => by
    obtain ⟨v, h1, h2⟩ := h.slots i sv e
    exact ⟨v, h1, h2.keep l fun ow a ha => hl a _ ha ⟨sv, e, ow⟩⟩
  objs := fun n mo e => (h.objs n mo e).keep l fun a k ha => hl a _ ha ⟨mo, e⟩
  keep := keep
  fext := fun a o e => l.F a o (h.fext a o e)
  fnew := fnew
  mmx := fun n a e => l.mm n a (h.mmx n a e)
  mml := by rw [ml]; exact h.mml
  ob := fun a e => by obtain ⟨o, q⟩ := h.ob a e; exact grow a o q
  len := h.len
  hold := fun p hp => by
    rw [l.hold] at hp
    obtain ⟨h1, h2⟩ := h.hold p hp
    obtain ⟨q1, q2⟩ := hl _ _ h1 trivial
    exact ⟨q1, by rw [q2]; exact h2⟩

/-- an address that is free -/
theorem StOk.free (h : StOk K B W s σ H) {p : Addr} (hp : H p = none) : W.F p = none ∧ W.lab p = none ∧ B.H p = none := by
  refine ⟨?_, ?_, ?_⟩
  · cases e : W.F p with
    | none => rfl
    | some o => have := h.sub p o e; rw [hp] at this; cases this
  · cases e : W.lab p with
    | none => rfl
    | some x => obtain ⟨o, q, _⟩ := h.lh p x e; rw [hp] at q; cases q
  · cases e : B.H p with
    | none => rfl
    | some o =>
      rcases h.keep p o e with q | ⟨_, q⟩
      · obtain ⟨u, q⟩ := h.ob p q; rw [hp] at q; cases q
      · rw [hp] at q; cases q
theorem upd_grow {H : Hp} {p : Addr} {o : HO} (a : Addr) (u : HO) (e : H a = some u) : ∃ u', upd H p o a = some u' := by
  by_cases q : a = p
  · subst q; exact ⟨o, upd_same⟩
  · exact ⟨u, by rw [upd_ne q]; exact e⟩
/-- labelled things stay labelled things when one that is no tuple is written -/
theorem upd_lh {H : Hp} {p : Addr} {o : HO} (ho : NT o = true) {a : Addr} (h : ∃ u, H a = some u ∧ NT u = true) : ∃ u, upd H p o a = some u ∧ NT u = true := by
  obtain ⟨u, e, t⟩ := h
  by_cases q : a = p
  · subst q; exact ⟨o, upd_same, ho⟩
  · exact ⟨u, by rw [upd_ne q]; exact e, t⟩
theorem upd_at {H : Hp} {a : Addr} {o : HO} {b : Addr} {u : HO} (h : upd H a o b = some u) : (b = a ∧ o = u) ∨ (b ≠ a ∧ H b = some u) := by
  by_cases e : b = a
  · subst e; rw [upd_same] at h; exact .inl ⟨rfl, Option.some.inj h⟩
  · rw [upd_ne e] at h; exact .inr ⟨e, h⟩

/-- a new object that nobody looks at -/
theorem StOk.junk (h : StOk K B W s σ H) {p : Addr} {o : HO} (hp : H p = none) : StOk K B W s σ (upd H p o) := by
  obtain ⟨f1, f2, f3⟩ := h.free hp
  have ne : ∀ a u, H a = some u → a ≠ p := fun a u e q => by rw [q, hp] at e; cases e
  refine h.step (Wd.Le.refl W) (fun a x e _ => ⟨e, ?_⟩) (fun a u e => ?_) h.fl (fun a x e => ?_) (fun a u e => ?_) h.fnew rfl upd_grow
  · obtain ⟨u, q, _⟩ := h.lh a x e
    exact upd_ne (ne a u q)
  · have q := h.sub a u e
    rw [upd_ne (ne a u q)]; exact q
  · obtain ⟨u, q, t⟩ := h.lh a x e
    exact ⟨u, by rw [upd_ne (ne a u q)]; exact q, t⟩
  · rcases h.keep a u e with q | ⟨q1, q2⟩
    · exact .inl q
    · exact .inr ⟨q1, by rw [upd_ne (ne a u q2)]; exact q2⟩
/-- a new frozen object -/
theorem StOk.frozen (h : StOk K B W s σ H) {p : Addr} {o : HO} (hp : H p = none) : W.Le { W with F := upd W.F p o } ∧ StOk K B { W with F := upd W.F p o } s σ (upd H p o) := by
  obtain ⟨f1, f2, f3⟩ := h.free hp
  have ne : ∀ a u, H a = some u → a ≠ p := fun a u e q => by rw [q, hp] at e; cases e
  have le : W.Le { W with F := upd W.F p o } := ⟨fun a u e => by show upd W.F p o a = _; rw [upd_ne (ne a u (h.sub a u e))]; exact e, fun _ _ e => e, rfl⟩
  refine ⟨le, h.step le (fun a x e _ => ⟨e, ?_⟩) (fun a u e => ?_) (fun a u e => ?_) (fun a x e => ?_) (fun a u e => ?_) (fun a u e => ?_) rfl upd_grow⟩
  · obtain ⟨u, q, _⟩ := h.lh a x e
    exact upd_ne (ne a u q)
  · rcases upd_at e with ⟨rfl, rfl⟩ | ⟨e1, e2⟩
    · exact upd_same
    · rw [upd_ne e1]; exact h.sub a u e2
  · rcases upd_at e with ⟨rfl, rfl⟩ | ⟨e1, e2⟩
    · exact f2
    · exact h.fl a u e2
  · obtain ⟨u, q, t⟩ := h.lh a x e
    exact ⟨u, by rw [upd_ne (ne a u q)]; exact q, t⟩
  · rcases h.keep a u e with q | ⟨q1, q2⟩
    · exact .inl q
    · exact .inr ⟨q1, by rw [upd_ne (ne a u q2)]; exact q2⟩
  · rcases upd_at e with ⟨rfl, rfl⟩ | ⟨e1, e2⟩
    · exact .inr (.inl f3)
    · exact h.fnew a u e2
/-- a new object of its own: what an expression gives -/
theorem StOk.made (h : StOk K B W s σ H) {p : Addr} {o : HO} (hp : H p = none) (ho : NT o = true := by rfl) : W.Le { W with lab := updl W.lab p (some (.res, 0)) } ∧ StOk K B { W with lab := updl W.lab p (some (.res, 0)) } s σ (upd H p o) := by
  obtain ⟨f1, f2, f3⟩ := h.free hp
  have ne : ∀ a u, H a = some u → a ≠ p := fun a u e q => by rw [q, hp] at e; cases e
  have le : W.Le { W with lab := updl W.lab p (some (.res, 0)) } := ⟨fun a u e => e, fun _ _ e => e, rfl⟩
  refine ⟨le, h.step le (fun a x e _ => ?_) (fun a u e => ?_) (fun a u e => ?_) (fun a x e => ?_) (fun a u e => ?_) h.fnew rfl upd_grow⟩
  · obtain ⟨u, q, _⟩ := h.lh a x e
    exact ⟨by show updl W.lab p _ a = _; rw [updl_ne (ne a u q)]; exact e, upd_ne (ne a u q)⟩
  · have q := h.sub a u e
    rw [upd_ne (ne a u q)]; exact q
  · have q := h.sub a u e
    show updl W.lab p _ a = _
    rw [updl_ne (ne a u q)]; exact h.fl a u e
  · by_cases q : a = p
    · subst q; exact ⟨o, upd_same, ho⟩
    · have e2 : W.lab a = some x := by rw [← updl_ne (l := W.lab) (x := some (.res, 0)) q]; exact e
      obtain ⟨u, q2, t⟩ := h.lh a x e2
      exact ⟨u, by rw [upd_ne q]; exact q2, t⟩
  · rcases h.keep a u e with q | ⟨q1, q2⟩
    · exact .inl q
    · exact .inr ⟨by show updl W.lab p _ a = _; rw [updl_ne (ne a u q2)]; exact q1, by rw [upd_ne (ne a u q2)]; exact q2⟩
end
end DL
/-! The data layer, part 2: moves of a state. -/
namespace DL
open PySem PySem.Spec PyProof.Rows L2
section
variable {K : PySem.W.Frag} {B : Bs} {W W' : Wd} {s s' : Sx} {σ σ' : L2.St} {H H' : Hp}

/-- a slot is forgotten -/
theorem StOk.forget (h : StOk K B W s σ H) (i : Nat) : StOk K B W ⟨s.ρ.set i none, s.M⟩ σ H where
  sub := h.sub
  fl := h.fl
  lh := h.lh
  slots := fun j sv e => by
    have e' : (s.ρ.set i none)[j]? = some (some sv) := e
    by_cases q : i = j
    · subst q
      rw [List.getElem?_set] at e'
      by_cases hl : i < s.ρ.length
      · simp [hl] at e'
      · simp [hl] at e'
    · rw [List.getElem?_set_ne q] at e'
      exact h.slots j sv e'
  objs := h.objs
  keep := h.keep
  fext := h.fext
  fnew := h.fnew
  mmx := h.mmx
  mml := h.mml
  ob := h.ob
  hold := h.hold
  len := by show σ.length = (s.ρ.set i none).length; rw [List.length_set]; exact h.len
/-- all slots are forgotten -/
theorem StOk.bare (h : StOk K B W s σ H) : StOk K B W ⟨[], s.M⟩ [] H where
  sub := h.sub
  fl := h.fl
  lh := h.lh
  slots := fun j sv e => by simp at e
  objs := h.objs
  keep := h.keep
  fext := h.fext
  fnew := h.fnew
  mmx := h.mmx
  mml := h.mml
  ob := h.ob
  hold := h.hold
  len := rfl
theorem live_forget {i : Nat} {r : Root} (h : Live ⟨s.ρ.set i none, s.M⟩ r) : Live s r ∧ r ≠ .slot i := by
  cases r with
  | res => exact h.elim
  | obj n => exact ⟨h, by simp⟩
  | hold => exact ⟨h, by simp⟩
  | slot j =>
    obtain ⟨sv, e, o⟩ := h
    have e' : (s.ρ.set i none)[j]? = some (some sv) := e
    by_cases q : i = j
    · subst q
      rw [List.getElem?_set] at e'
      by_cases hl : i < s.ρ.length
      · simp [hl] at e'
      · simp [hl] at e'
    · rw [List.getElem?_set_ne q] at e'
      exact ⟨⟨sv, e', o⟩, by simpa using Ne.symm q⟩
/-- a label that nobody leans on is given away: to another label, or to the frozen -/
theorem StOk.relabel (h : StOk K B W s σ H) {a : Addr} {x : Root × Nat} (ha : W.lab a = some x) (hn : ¬ Live s x.1) (y : Root × Nat) :
    W.Le { W with lab := updl W.lab a (some y) } ∧ StOk K B { W with lab := updl W.lab a (some y) } s σ H := by
  have le : W.Le { W with lab := updl W.lab a (some y) } := ⟨fun _ _ e => e, fun _ _ e => e, rfl⟩
  refine ⟨le, h.step le (fun b z e l => ⟨?_, rfl⟩) h.sub (fun b u e => ?_) (fun b z e => ?_) (fun b u e => ?_) h.fnew rfl (fun b u e => ⟨u, e⟩)⟩
  · show updl W.lab a _ b = _
    rw [updl_ne]
    · exact e
    · rintro rfl; rw [ha] at e; cases e; exact hn l
  · show updl W.lab a _ b = _
    rw [updl_ne]
    · exact h.fl b u e
    · rintro rfl
      have := h.fl _ u e
      rw [ha] at this; cases this
  · by_cases q : b = a
    · subst q; exact h.lh b x ha
    · have e2 : W.lab b = some z := by rw [← updl_ne (l := W.lab) (x := some y) q]; exact e
      exact h.lh b z e2
  · rcases h.keep b u e with q | ⟨q1, q2⟩
    · exact .inl q
    · refine .inr ⟨?_, q2⟩
      show updl W.lab a _ b = _
      rw [updl_ne]
      · exact q1
      · rintro rfl; rw [ha] at q1; cases q1
theorem StOk.freezeA (h : StOk K B W s σ H) {a : Addr} {x : Root × Nat} {o : HO} (ha : W.lab a = some x) (hn : ¬ Live s x.1) (ho : H a = some o) :
    W.Le { W with F := upd W.F a o, lab := updl W.lab a none } ∧ StOk K B { W with F := upd W.F a o, lab := updl W.lab a none } s σ H := by
  have hF : W.F a = none := by
    cases e : W.F a with
    | none => rfl
    | some u => have := h.fl a u e; rw [ha] at this; cases this
  have le : W.Le { W with F := upd W.F a o, lab := updl W.lab a none } := by
    refine ⟨fun b u e => ?_, fun _ _ e => e, rfl⟩
    show upd W.F a o b = _
    rw [upd_ne]
    · exact e
    · rintro rfl; rw [hF] at e; cases e
  refine ⟨le, h.step le (fun b z e l => ⟨?_, rfl⟩) (fun b u e => ?_) (fun b u e => ?_) (fun b z e => ?_) (fun b u e => ?_) (fun b u e => ?_) rfl (fun b u e => ⟨u, e⟩)⟩
  · show updl W.lab a _ b = _
    rw [updl_ne]
    · exact e
    · rintro rfl; rw [ha] at e; cases e; exact hn l
  · rcases upd_at e with ⟨rfl, rfl⟩ | ⟨e1, e2⟩
    · exact ho
    · exact h.sub b u e2
  · show updl W.lab a _ b = _
    rcases upd_at e with ⟨rfl, rfl⟩ | ⟨e1, e2⟩
    · exact updl_same
    · rw [updl_ne e1]; exact h.fl b u e2
  · by_cases q : b = a
    · subst q
      have e2 : updl W.lab b none b = some z := e
      rw [updl_same] at e2; cases e2
    · have e2 : W.lab b = some z := by rw [← updl_ne (l := W.lab) (x := none) q]; exact e
      exact h.lh b z e2
  · rcases h.keep b u e with q | ⟨q1, q2⟩
    · exact .inl q
    · refine .inr ⟨?_, q2⟩
      show updl W.lab a _ b = _
      by_cases q : b = a
      · subst q; exact updl_same
      · rw [updl_ne q]; exact q1
  · rcases upd_at e with ⟨rfl, rfl⟩ | ⟨e1, e2⟩
    · cases e3 : B.H b with
      | none => exact .inr (.inl rfl)
      | some u =>
        rcases h.keep b u e3 with q | ⟨q1, q2⟩
        · exact .inr (.inr (.inl q))
        · rw [ha] at q1; cases q1
    · exact h.fnew b u e2
/-- what an expression gave is frozen -/
theorem StOk.freeze {r : Root} {k : Nat} (h : StOk K B W s σ H) (hn : ¬ Live s r) {sv : SV} {v : V} (hv : SvOk K W H r k sv v) : ∃ W', W.Le W' ∧ StOk K B W' s σ H ∧ Rep K W' v (frz sv) := by
  cases sv with
  | val d => exact ⟨W, Wd.Le.refl W, h, hv⟩
  | own ds =>
    obtain ⟨a, vs, rfl, h1, h2, h3⟩ := hv
    obtain ⟨l, q⟩ := h.freezeA h1 hn h2
    exact ⟨_, l, q, .lst (by exact upd_same) (h3.mono l)⟩
  | ownD ks ds =>
    obtain ⟨a, kvs, rfl, h1, h2, h3, h4⟩ := hv
    obtain ⟨l, q⟩ := h.freezeA h1 hn h2
    exact ⟨_, l, q, .dct (by exact upd_same) h3 (h4.mono l)⟩
/-- a tuple is always frozen -/
theorem StOk.freezeTup (h : StOk K B W s σ H) {a : Addr} {vs : List V} (ha : H a = some (.tup vs)) : W.Le { W with F := upd W.F a (.tup vs) } ∧ StOk K B { W with F := upd W.F a (.tup vs) } s σ H := by
  have hl : W.lab a = none := by
    cases e : W.lab a with
    | none => rfl
    | some x =>
      obtain ⟨o, q, t⟩ := h.lh a x e
      rw [ha] at q; cases q; cases t
  have le : W.Le { W with F := upd W.F a (.tup vs) } := by
    refine ⟨fun b u e => ?_, fun _ _ e => e, rfl⟩
    show upd W.F a (.tup vs) b = _
    by_cases q : b = a
    · subst q
      have := h.sub b u e
      rw [ha] at this; cases this
      exact upd_same
    · rw [upd_ne q]; exact e
  refine ⟨le, h.step le (fun b z e l => ⟨e, rfl⟩) (fun b u e => ?_) (fun b u e => ?_) (fun b z e => h.lh b z e) (fun b u e => h.keep b u e) (fun b u e => ?_) rfl (fun b u e => ⟨u, e⟩)⟩
  · rcases upd_at e with ⟨rfl, rfl⟩ | ⟨e1, e2⟩
    · exact ha
    · exact h.sub b u e2
  · rcases upd_at e with ⟨rfl, rfl⟩ | ⟨e1, e2⟩
    · exact hl
    · exact h.fl b u e2
  · rcases upd_at e with ⟨rfl, rfl⟩ | ⟨e1, e2⟩
    · exact .inr (.inr (.inr rfl))
    · exact h.fnew b u e2
/-- a value is stored -/
theorem StOk.setVal (h : StOk K B W s σ H) {i : Nat} {v : V} {d : D} (r : Rep K W v d) : StOk K B W ⟨s.ρ.set i (some (.val d)), s.M⟩ (σ.set i (some v)) H where
  sub := h.sub
  fl := h.fl
  lh := h.lh
  slots := fun j sv e => by
    have e' : (s.ρ.set i (some (.val d)))[j]? = some (some sv) := e
    by_cases q : i = j
    · subst q
      rw [List.getElem?_set] at e'
      by_cases hl : i < s.ρ.length
      · simp [hl] at e'; subst e'
        exact ⟨v, by rw [List.getElem?_set_self (by rw [h.len]; exact hl)], r⟩
      · simp [hl] at e'
    · rw [List.getElem?_set_ne q] at e'
      rw [List.getElem?_set_ne q]
      exact h.slots j sv e'
  objs := h.objs
  keep := h.keep
  fext := h.fext
  fnew := h.fnew
  mmx := h.mmx
  mml := h.mml
  ob := h.ob
  hold := h.hold
  len := by show (σ.set i (some v)).length = (s.ρ.set i (some (.val d))).length; rw [List.length_set, List.length_set]; exact h.len
theorem Wd.Le.lab (W : Wd) (l : Addr → Option (Root × Nat)) : W.Le { W with lab := l } := ⟨fun _ _ e => e, fun _ _ e => e, rfl⟩
/-- what an expression gave is stored -/
theorem StOk.setRes (h : StOk K B W s σ H) {i : Nat} {v : V} {sv : SV} (hv : SvOk K W H .res 0 sv v) : ∃ W', W.Le W' ∧ StOk K B W' ⟨s.ρ.set i (some sv), s.M⟩ (σ.set i (some v)) H := by
  have go : ∀ (a : Addr), W.lab a = some (.res, 0) → isOwn sv = true → SvOk K { W with lab := updl W.lab a (some (.slot i, 0)) } H (.slot i) 0 sv v → ∃ W', W.Le W' ∧ StOk K B W' ⟨s.ρ.set i (some sv), s.M⟩ (σ.set i (some v)) H := fun a ha ho hok => by
    obtain ⟨l, g⟩ := (h.forget i).relabel ha (fun z => z) (.slot i, 0)
    refine ⟨_, l, ⟨g.sub, g.fl, g.lh, fun j sv' e => ?_, g.objs, g.keep, g.fext, g.fnew, g.mmx, g.mml, g.ob, ?_, g.hold⟩⟩
    · have e' : (s.ρ.set i (some sv))[j]? = some (some sv') := e
      by_cases q : i = j
      · subst q
        rw [List.getElem?_set] at e'
        by_cases hl : i < s.ρ.length
        · simp [hl] at e'; subst e'
          exact ⟨v, by rw [List.getElem?_set_self (by rw [h.len]; exact hl)], hok⟩
        · simp [hl] at e'
      · rw [List.getElem?_set_ne q] at e'
        rw [List.getElem?_set_ne q]
        exact g.slots j sv' (by show (s.ρ.set i none)[j]? = _; rw [List.getElem?_set_ne q]; exact e')
    · show (σ.set i (some v)).length = (s.ρ.set i (some sv)).length
      rw [List.length_set, List.length_set]; exact h.len
  cases sv with
  | val d => exact ⟨W, Wd.Le.refl W, h.setVal hv⟩
  | own ds =>
    obtain ⟨a, vs, rfl, h1, h2, h3⟩ := hv
    exact go a h1 rfl ⟨a, vs, rfl, updl_same, h2, h3.mono (Wd.Le.lab W _)⟩
  | ownD ks ds =>
    obtain ⟨a, kvs, rfl, h1, h2, h3, h4⟩ := hv
    exact go a h1 rfl ⟨a, kvs, rfl, updl_same, h2, h3, h4.mono (Wd.Le.lab W _)⟩
/-- a slot is read, and frozen -/
theorem StOk.readVar (h : StOk K B W s σ H) {i : Nat} {sv : SV} (e : s.ρ[i]? = some (some sv)) : ∃ v W', σ[i]? = some (some v) ∧ W.Le W' ∧ StOk K B W' ⟨s.ρ.set i (some (.val (frz sv))), s.M⟩ σ H ∧ Rep K W' v (frz sv) := by
  obtain ⟨v, e1, hv⟩ := h.slots i sv e
  have hi : i < s.ρ.length := (List.getElem?_eq_some_iff.mp e).1
  obtain ⟨W', l, g, r⟩ := (h.forget i).freeze (fun z => (live_forget z).2 rfl) hv
  refine ⟨v, W', e1, l, ?_, r⟩
  have g2 := g.setVal (i := i) r
  have e2 : σ.set i (some v) = σ := by
    apply List.ext_getElem?
    intro j
    by_cases q : i = j
    · subst q; rw [List.getElem?_set_self (by rw [h.len]; exact hi), e1]
    · rw [List.getElem?_set_ne q]
  have e3 : (s.ρ.set i none).set i (some (.val (frz sv))) = s.ρ.set i (some (.val (frz sv))) := List.set_set _
  rw [e2] at g2
  show StOk K B W' ⟨s.ρ.set i (some (.val (frz sv))), s.M⟩ σ H
  rw [← e3]
  exact g2
/-- an own object at a label is written -/
theorem StOk.write (h : StOk K B W s σ H) {a : Addr} {x : Root × Nat} {o : HO} (ha : W.lab a = some x) (hn : ¬ Live s x.1) (ho : NT o = true) : StOk K B W s σ (upd H a o) := by
  have nF : ∀ b u, W.F b = some u → b ≠ a := fun b u e q => by subst q; have := h.fl b u e; rw [ha] at this; cases this
  refine h.step (Wd.Le.refl W) (fun b z e l => ⟨e, ?_⟩) (fun b u e => ?_) h.fl (fun b z e => ?_) (fun b u e => ?_) h.fnew rfl upd_grow
  · rw [upd_ne]
    rintro rfl; rw [ha] at e; cases e; exact hn l
  · rw [upd_ne (nF b u e)]; exact h.sub b u e
  · exact upd_lh ho (h.lh b z e)
  · rcases h.keep b u e with q | ⟨q1, q2⟩
    · exact .inl q
    · refine .inr ⟨q1, ?_⟩
      rw [upd_ne]
      · exact q2
      · rintro rfl; rw [ha] at q1; cases q1
/-- a slot's own object is written -/
theorem StOk.writeSlot (h : StOk K B W s σ H) {i : Nat} {sv sv' : SV} {v : V} {a : Addr} {o : HO} (e : s.ρ[i]? = some (some sv)) (hv : σ[i]? = some (some v)) (hva : v = .ref a) (ha : W.lab a = some (.slot i, 0))
    (hok : SvOk K W (upd H a o) (.slot i) 0 sv' v) (ho : NT o = true := by rfl) : StOk K B W ⟨s.ρ.set i (some sv'), s.M⟩ σ (upd H a o) := by
  have g := (h.forget i).write (o := o) ha (fun z => (live_forget z).2 rfl) ho
  refine ⟨g.sub, g.fl, g.lh, fun j sv1 e1 => ?_, g.objs, g.keep, g.fext, g.fnew, g.mmx, g.mml, g.ob, ?_, g.hold⟩
  · have e' : (s.ρ.set i (some sv'))[j]? = some (some sv1) := e1
    by_cases q : i = j
    · subst q
      rw [List.getElem?_set] at e'
      by_cases hl : i < s.ρ.length
      · simp [hl] at e'; subst e'
        exact ⟨v, hv, hok⟩
      · simp [hl] at e'
    · rw [List.getElem?_set_ne q] at e'
      exact g.slots j sv1 (by show (s.ρ.set i none)[j]? = _; rw [List.getElem?_set_ne q]; exact e')
  · show σ.length = (s.ρ.set i (some sv')).length
    rw [List.length_set]; exact h.len
/-- an object's list is written -/
theorem StOk.writeObj (h : StOk K B W s σ H) {n : Nat} {ds ds' : List D} {a : Addr} {vs' : List V} (e : s.M[n]? = some (.lst ds)) (hm : W.mm[n]? = some a) (r : Reps K W vs' ds') :
    StOk K B W ⟨s.ρ, s.M.set n (.lst ds')⟩ σ (upd H a (.lst vs')) := by
  obtain ⟨a', vs0, e1, ha, e2, r0⟩ := h.objs n _ e
  rw [hm] at e1; cases e1
  have hlt : n < s.M.length := (List.getElem?_eq_some_iff.mp e).1
  have nF : ∀ b u, W.F b = some u → b ≠ a := fun b u e q => by subst q; have := h.fl b u e; rw [ha] at this; cases this
  have nl : ∀ b r k, W.lab b = some (r, k) → r ≠ .obj n → b ≠ a := fun b r k e q z => by subst z; rw [ha] at e; cases e; exact q rfl
  refine ⟨fun b u e => ?_, h.fl, fun b z e => ?_, fun i sv e => ?_, fun j mo e => ?_, fun b u e => ?_, h.fext, h.fnew, h.mmx, ?_, fun b e => ?_, h.len, fun q hq => ?_⟩
  · rw [upd_ne (nF b u e)]; exact h.sub b u e
  · exact upd_lh rfl (h.lh b z e)
  · obtain ⟨v, h1, h2⟩ := h.slots i sv e
    exact ⟨v, h1, h2.keep (Wd.Le.refl W) fun _ b hb => ⟨hb, upd_ne (nl b _ _ hb (by simp))⟩⟩
  · have e' : (s.M.set n (.lst ds'))[j]? = some mo := e
    by_cases q : n = j
    · subst q
      rw [List.getElem?_set_self hlt] at e'
      cases e'
      exact ⟨a, vs', hm, ha, upd_same, r⟩
    · rw [List.getElem?_set_ne q] at e'
      exact (h.objs j mo e').keep (Wd.Le.refl W) fun b k hb => ⟨hb, upd_ne (nl b _ _ hb (by simpa using Ne.symm q))⟩
  · rcases h.keep b u e with q | ⟨q1, q2⟩
    · exact .inl q
    · refine .inr ⟨q1, ?_⟩
      rw [upd_ne]
      · exact q2
      · rintro rfl; rw [ha] at q1; cases q1
  · show W.mm.length = (s.M.set n (.lst ds')).length
    rw [List.length_set]; exact h.mml
  · obtain ⟨o, q⟩ := h.ob b e
    exact upd_grow b o q
  · obtain ⟨h1, h2⟩ := h.hold q hq
    exact ⟨h1, by rw [upd_ne (nl _ _ _ h1 (by simp))]; exact h2⟩
/-- a list of its own becomes an object that is handed on -/
theorem StOk.promote (h : StOk K B W s σ H) {ds : List D} {v : V} (hv : SvOk K W H .res 0 (.own ds) v) : ∃ W', W.Le W' ∧ StOk K B W' ⟨s.ρ, s.M ++ [.lst ds]⟩ σ H ∧ Rep K W' v (.obj s.M.length) := by
  obtain ⟨a, vs, rfl, ha, e2, r⟩ := hv
  obtain ⟨l, g⟩ := h.relabel ha (fun z => z) (.obj s.M.length, 0)
  have le : ({ W with lab := updl W.lab a (some (.obj s.M.length, 0)) } : Wd).Le { F := W.F, mm := W.mm ++ [a], lab := updl W.lab a (some (.obj s.M.length, 0)), hold := W.hold } :=
    ⟨fun _ _ e => e, fun n b e => by
      show (W.mm ++ [a])[n]? = some b
      have e' : W.mm[n]? = some b := e
      rw [List.getElem?_append_left (List.getElem?_eq_some_iff.mp e').1]; exact e', rfl⟩
  have hat : (W.mm ++ [a])[s.M.length]? = some a := by
    rw [List.getElem?_append_right (by rw [h.mml]; exact Nat.le_refl _), h.mml]; simp
  refine ⟨_, l.trans le, ⟨g.sub, g.fl, g.lh, fun i sv e => ?_, fun j mo e => ?_, g.keep, g.fext, g.fnew, fun n b e => le.mm n b (g.mmx n b e), ?_, g.ob, h.len, g.hold⟩, .obj hat⟩
  · obtain ⟨v, h1, h2⟩ := g.slots i sv e
    exact ⟨v, h1, h2.keep le fun _ b hb => ⟨hb, rfl⟩⟩
  · have e' : (s.M ++ [MO.lst ds])[j]? = some mo := e
    by_cases q : j < s.M.length
    · rw [List.getElem?_append_left q] at e'
      exact (g.objs j mo e').keep le fun b k hb => ⟨hb, rfl⟩
    · have q2 : j = s.M.length := by
        have := (List.getElem?_eq_some_iff.mp e').1
        simp at this
        omega
      subst q2
      rw [List.getElem?_append_right (Nat.le_refl _)] at e'
      simp at e'
      subst e'
      exact ⟨a, vs, hat, updl_same, e2, r.mono (l.trans le)⟩
  · show (W.mm ++ [a]).length = (s.M ++ [MO.lst ds]).length
    simp [h.mml]
/-- what an expression gave is held back -/
theorem StOk.park (h : StOk K B W s σ H) {a : Addr} {o : HO} (ha : W.lab a = some (.res, 0)) (ho : H a = some o) :
    W.Lm { W with lab := updl W.lab a (some (.hold, 0)), hold := (a, o) :: W.hold } ∧ StOk K B { W with lab := updl W.lab a (some (.hold, 0)), hold := (a, o) :: W.hold } s σ H := by
  obtain ⟨l, g⟩ := h.relabel ha (fun z => z) (.hold, 0)
  refine ⟨⟨fun _ _ e => e, fun _ _ e => e⟩, ⟨g.sub, g.fl, g.lh, fun i sv e => ?_, fun n mo e => ?_, g.keep, g.fext, g.fnew, g.mmx, g.mml, g.ob, g.len, fun p hp => ?_⟩⟩
  · obtain ⟨v, h1, h2⟩ := g.slots i sv e
    exact ⟨v, h1, h2.keepM ⟨fun _ _ e => e, fun _ _ e => e⟩ fun _ b hb => ⟨hb, rfl⟩⟩
  · exact (g.objs n mo e).keepM ⟨fun _ _ e => e, fun _ _ e => e⟩ fun b k hb => ⟨hb, rfl⟩
  · rcases List.mem_cons.mp hp with rfl | hp
    · exact ⟨updl_same, ho⟩
    · exact g.hold p hp
/-- .. and is back -/
theorem StOk.unpark (h : StOk K B W s σ H) {a : Addr} {o : HO} {hs : List (Addr × HO)} (e : W.hold = (a, o) :: hs) (hn : ∀ p, p ∈ hs → p.1 ≠ a) :
    StOk K B { W with lab := updl W.lab a (some (.res, 0)), hold := hs } s σ H ∧ H a = some o := by
  obtain ⟨ha', ho'⟩ := h.hold (a, o) (by rw [e]; exact List.mem_cons_self)
  have ha : W.lab a = some (.hold, 0) := ha'
  have ho : H a = some o := ho'
  have nl : ∀ b r k, W.lab b = some (r, k) → r ≠ .hold → b ≠ a := fun b r k e1 q z => by subst z; rw [ha] at e1; cases e1; exact q rfl
  have lm : W.Lm { W with lab := updl W.lab a (some (.res, 0)), hold := hs } := ⟨fun _ _ e => e, fun _ _ e => e⟩
  refine ⟨⟨h.sub, fun b u e1 => ?_, fun b z e1 => ?_, fun i sv e1 => ?_, fun n mo e1 => ?_, fun b u e1 => ?_, h.fext, h.fnew, h.mmx, h.mml, h.ob, h.len, fun p hp => ?_⟩, ho⟩
  · show updl W.lab a _ b = _
    have q := h.fl b u e1
    rw [updl_ne]
    · exact q
    · rintro rfl; rw [ha] at q; cases q
  · by_cases q : b = a
    · subst q; exact h.lh b _ ha
    · have e2 : W.lab b = some z := by rw [← updl_ne (l := W.lab) (x := some (.res, 0)) q]; exact e1
      exact h.lh b z e2
  · obtain ⟨v, h1, h2⟩ := h.slots i sv e1
    exact ⟨v, h1, h2.keepM lm fun _ b hb => ⟨by show updl W.lab a _ b = _; rw [updl_ne (nl b _ _ hb (by simp))]; exact hb, rfl⟩⟩
  · exact (h.objs n mo e1).keepM lm fun b k hb => ⟨by show updl W.lab a _ b = _; rw [updl_ne (nl b _ _ hb (by simp))]; exact hb, rfl⟩
  · rcases h.keep b u e1 with q | ⟨q1, q2⟩
    · exact .inl q
    · refine .inr ⟨?_, q2⟩
      show updl W.lab a _ b = _
      rw [updl_ne]
      · exact q1
      · rintro rfl; rw [ha] at q1; cases q1
  · obtain ⟨h1, h2⟩ := h.hold p (by rw [e]; exact List.mem_cons_of_mem _ hp)
    exact ⟨by show updl W.lab a _ p.1 = _; rw [updl_ne (hn p hp)]; exact h1, h2⟩
end
end DL
/-! The data layer, part 3: what a piece of the text does to a state; expressions. -/
namespace DL
open PySem PySem.Spec PyProof.Rows L2

inductive R (α : Type) where
  | ok (a : α) (s : Sx)
  | exc (C : Str) (M : List MO)
  | bad
def R.bind {α β : Type} (r : R α) (k : α → Sx → R β) : R β := match r with
  | .ok a s => k a s
  | .exc C M => .exc C M
  | .bad => .bad
def R.opt {α : Type} (o : Option α) (s : Sx) : R α := match o with
  | some a => .ok a s
  | none => .bad
abbrev DE := Sx → R SV
abbrev DA := Sx → R (List D)
abbrev DT := Sx → R Bool
inductive Fl where
  | nx | rt (v : SV) | bk | ct
abbrev DS := Sx → R Fl

def PX (K : PySem.W.Frag) (B : Bs) (W : Wd) (E : XK) (C : Str) (M : List MO) : Prop := ∀ H' W', W.Le W' → StOk K B W' ⟨[], M⟩ [] H' → E (.ref (He.ga K C)) none H'
def Pst {α β : Type} (ok : Wd → Hp → α → β → Prop) (K : PySem.W.Frag) (B : Bs) (W : Wd) (E : XK) (σ : L2.St) (r : R α) (Q : β → Hp → Prop) : Prop := match r with
  | .ok a s => ∀ b H W', W.Le W' → StOk K B W' s σ H → ok W' H a b → Q b H
  | .exc C M => PX K B W E C M
  | .bad => False
def TG {α β : Type} (ok : Wd → Hp → α → β → Prop) (K : PySem.W.Frag) (B : Bs) (E : XK) (de : Sx → R α) : L2.St → Hp → (β → Hp → Prop) → Prop := fun σ H Q => ∃ W s, StOk K B W s σ H ∧ Pst ok K B W E σ (de s) Q
def okV (K : PySem.W.Frag) (W : Wd) (H : Hp) (sv : SV) (v : V) : Prop := SvOk K W H .res 0 sv v
def okB (W : Wd) (H : Hp) (a b : Bool) : Prop := a = b
def okL (K : PySem.W.Frag) (W : Wd) (H : Hp) (ds : List D) (vs : List V) : Prop := Reps K W vs ds
def okD (K : PySem.W.Frag) (W : Wd) (H : Hp) (d : D) (v : V) : Prop := Rep K W v d

structure SndE (X : Cx) (E : XK) (e : Expr) (de : DE) : Prop where
  h : ∀ B, PE X e (TG (okV X.K) X.K B E de)
structure SndT (X : Cx) (E : XK) (e : Expr) (dt : DT) : Prop where
  h : ∀ B, PT X e (TG okB X.K B E dt)
structure SndW (X : Cx) (E : XK) (e : Expr) (dt : DT) : Prop where
  h : ∀ B, PW X e (TG okB X.K B E dt)
structure SndA (X : Cx) (E : XK) (es : List Expr) (da : DA) : Prop where
  h : ∀ B, PA X es (TG (okL X.K) X.K B E da)

section
variable {X : Cx}
theorem PE.imp {e : Expr} {t t' : TE} (h : PE X e t) (i : ∀ σ H Q, t' σ H Q → t σ H Q) : PE X e t' := ⟨fun pins s σ H Q I q => h.run pins s σ H Q I (i σ H Q q)⟩
theorem PT.imp {e : Expr} {t t' : TT} (h : PT X e t) (i : ∀ σ H Q, t' σ H Q → t σ H Q) : PT X e t' := ⟨fun pins s σ H Q I q => h.run pins s σ H Q I (i σ H Q q)⟩
theorem PW.imp {e : Expr} {t t' : TT} (h : PW X e t) (i : ∀ σ H Q, t' σ H Q → t σ H Q) : PW X e t' := ⟨fun wh pins s σ H Q I q => h.run wh pins s σ H Q I (i σ H Q q)⟩
theorem PA.imp {e : List Expr} {t t' : TA} (h : PA X e t) (i : ∀ σ H Q, t' σ H Q → t σ H Q) : PA X e t' := ⟨fun pos pins s σ H Q I q => h.run pos pins s σ H Q I (i σ H Q q)⟩
theorem PS.imp {e : Stmt} {t t' : TS} (h : PS X e t) (i : ∀ D σ H, t' D σ H → t D σ H) : PS X e t' := ⟨fun pins s σ H D I q => h.run pins s σ H D I (i D σ H q)⟩
theorem PSs.imp {e : List Stmt} {t t' : TS} (h : PSs X e t) (i : ∀ D σ H, t' D σ H → t D σ H) : PSs X e t' := ⟨fun pins s σ H D I q => h.run pins s σ H D I (i D σ H q)⟩
end
section
variable {K : PySem.W.Frag} {B : Bs} {W W' : Wd} {E : XK} {σ : L2.St} {H : Hp} {s : Sx}
theorem Pst.mono {α β : Type} {ok : Wd → Hp → α → β → Prop} {r : R α} {Q : β → Hp → Prop} (l : W.Le W') (h : Pst ok K B W E σ r Q) : Pst ok K B W' E σ r Q := by
  cases r with
  | ok a s => exact fun b H V lv => h b H V (l.trans lv)
  | exc C M => exact fun H' V lv => h H' V (l.trans lv)
  | bad => exact h
theorem Pst.imp {α β : Type} {ok : Wd → Hp → α → β → Prop} {r : R α} {Q Q' : β → Hp → Prop} (h : Pst ok K B W E σ r Q) (i : ∀ b H, Q b H → Q' b H) : Pst ok K B W E σ r Q' := by
  cases r with
  | ok a s => exact fun b H V lv st o => i b H (h b H V lv st o)
  | exc C M => exact h
  | bad => exact h
/-- one thing after another -/
theorem Pst.seq {α α' β β' : Type} {ok : Wd → Hp → α → β → Prop} {ok' : Wd → Hp → α' → β' → Prop} {a : Sx → R α} {k : α → Sx → R α'} {Q : β' → Hp → Prop} {Q1 : β → Hp → Prop}
    (st : StOk K B W s σ H) (p : Pst ok' K B W E σ ((a s).bind k) Q) (n : ∀ b H1 W1 s1 x, W.Le W1 → StOk K B W1 s1 σ H1 → ok W1 H1 x b → Pst ok' K B W1 E σ (k x s1) Q → Q1 b H1) : TG ok K B E a σ H Q1 := by
  refine ⟨W, s, st, ?_⟩
  cases e : a s with
  | ok x s1 =>
    rw [e] at p
    exact fun b H1 W1 l st1 o => n b H1 W1 s1 x l st1 o (Pst.mono l p)
  | exc C M => rw [e] at p; exact p
  | bad => rw [e] at p; exact p
/-- .. the value frozen -/
theorem Pst.seqD {α' β' : Type} {ok' : Wd → Hp → α' → β' → Prop} {a : DE} {k : SV → Sx → R α'} {Q : β' → Hp → Prop} {Q1 : VK}
    (st : StOk K B W s σ H) (p : Pst ok' K B W E σ ((a s).bind k) Q) (n : ∀ v H1 W1 s1 x, W.Le W1 → StOk K B W1 s1 σ H1 → Rep K W1 v (frz x) → Pst ok' K B W1 E σ (k x s1) Q → Q1 v H1) : TG (okV K) K B E a σ H Q1 :=
  Pst.seq st p fun b H1 W1 s1 x l st o p => by
    obtain ⟨W2, l2, st2, r⟩ := st.freeze (r := .res) (fun z => by exact z) o
    exact n b H1 W2 s1 x (l.trans l2) st2 r (Pst.mono l2 p)
/-- back from a state -/
theorem TG.of {α β : Type} {ok : Wd → Hp → α → β → Prop} {a : Sx → R α} {Q : β → Hp → Prop} (st : StOk K B W s σ H) (p : Pst ok K B W E σ (a s) Q) : TG ok K B E a σ H Q := ⟨W, s, st, p⟩
end

/-! ### names, constants -/
def dVar (i : Nat) : DE := fun s => match s.ρ[i]? with
  | some (some (.val d)) => .ok (.val d) s
  | some (some sv) => .ok (.val (frz sv)) ⟨s.ρ.set i (some (.val (frz sv))), s.M⟩
  | _ => .bad
def dC (d : D) : DE := fun s => .ok (.val d) s
section
variable {X : Cx} {E : XK}
theorem snd_pv {e : Expr} {i : Nat} (h : PE X e (tVar i)) : SndE X E e (dVar i) := by
  refine ⟨fun B => PE.imp h fun σ H Q q => ?_⟩
  obtain ⟨W, s, st, p⟩ := q
  unfold dVar at p
  have go : ∀ sv, s.ρ[i]? = some (some sv) → Pst (okV X.K) X.K B W E σ (.ok (.val (frz sv)) ⟨s.ρ.set i (some (.val (frz sv))), s.M⟩) Q → tVar i σ H Q := fun sv e p => by
    obtain ⟨v, W', e1, l, st', r⟩ := st.readVar e
    exact ⟨v, e1, p v H W' l st' r⟩
  cases e : s.ρ[i]? with
  | none => rw [e] at p; exact p.elim
  | some o =>
    cases o with
    | none => rw [e] at p; exact p.elim
    | some sv =>
      rw [e] at p
      cases sv with
      | val d =>
        obtain ⟨v, e1, r⟩ := st.slots i _ e
        exact ⟨v, e1, p v H W (Wd.Le.refl W) st r⟩
      | own ds => exact go _ e p
      | ownD ks ds => exact go _ e p
theorem snd_C {e : Expr} {v : V} {d : D} (h : PE X e (tC v)) (r : ∀ W, Rep X.K W v d) : SndE X E e (dC d) := by
  refine ⟨fun B => PE.imp h fun σ H Q q => ?_⟩
  obtain ⟨W, s, st, p⟩ := q
  exact p v H W (Wd.Le.refl W) st (r W)
theorem snd_int {i j pos} : SndE X E (.Constant (.int i) j pos) (dC (.int i)) := snd_C pe_int fun _ => .int i
theorem snd_bl {b j pos} : SndE X E (.Constant (.bool b) j pos) (dC (.bl b)) := snd_C pe_bl fun _ => .bl b
theorem snd_non {j pos} : SndE X E (.Constant .none j pos) (dC .non) := snd_C pe_non fun _ => .non
theorem snd_str {x j pos} (h : okS x = true := by decide +kernel) : SndE X E (.Constant (.str x) j pos) (dC (.str x)) := snd_C pe_str fun _ => .str x h
end

/-! ### argument lists, displays -/
def dNil : DA := fun s => .ok [] s
def dCons (a : DE) (r : DA) : DA := fun s => (a s).bind fun x s1 => (r s1).bind fun xs s2 => .ok (frz x :: xs) s2
def dTup (a : DA) : DE := fun s => (a s).bind fun xs s1 => if xs.length ≤ 1000 then .ok (.val (.tup xs)) s1 else .bad
def dLst (a : DA) : DE := fun s => (a s).bind fun xs s1 => if xs.length ≤ 1000 then .ok (.own xs) s1 else .bad
theorem le_line {n : Nat} (h : n ≤ 1000) : n ≤ sizeLine := Nat.le_of_lt (small1000 h)
section
variable {X : Cx} {E : XK}
theorem snd_nil : SndA X E [] dNil := by
  refine ⟨fun B => PA.imp pa_nil fun σ H Q q => ?_⟩
  obtain ⟨W, s, st, p⟩ := q
  exact p [] H W (Wd.Le.refl W) st .nil
theorem snd_cons {e : Expr} {es : List Expr} {a : DE} {r : DA} (ha : SndE X E e a) (hr : SndA X E es r) (hs : starEach (e :: es) X.env = (false, eval e X.env) :: starEach es X.env := by rfl) : SndA X E (e :: es) (dCons a r) := by
  refine ⟨fun B => PA.imp (pa_cons (ha.h B) (hr.h B) hs) fun σ H Q q => ?_⟩
  obtain ⟨W, s, st, p⟩ := q
  refine Pst.seqD st p fun v H1 W1 s1 x l st r1 p => Pst.seq (ok := okL X.K) st p fun vs H2 W2 s2 xs l2 st2 r2 p2 => ?_
  exact p2 (v :: vs) H2 W2 (Wd.Le.refl W2) st2 (.cons (r1.mono l2) r2)
/-- a new object for what an expression gives -/
theorem Pst.newTup {K : PySem.W.Frag} {B : Bs} {W : Wd} {σ : L2.St} {H : Hp} {s : Sx} {Q : VK} {xs : List D} {vs : List V} (p : Pst (okV K) K B W E σ (.ok (.val (.tup xs)) s) Q) (st : StOk K B W s σ H) (r : Reps K W vs xs) (a : Addr) (ha : H a = none) : Q (.ref a) (upd H a (.tup vs)) := by
  obtain ⟨l, st2⟩ := st.frozen (o := .tup vs) ha
  exact p _ _ _ l st2 (.tup (by exact upd_same) (r.mono l))
theorem Pst.newLst {K : PySem.W.Frag} {B : Bs} {W : Wd} {σ : L2.St} {H : Hp} {s : Sx} {Q : VK} {xs : List D} {vs : List V} (p : Pst (okV K) K B W E σ (.ok (.own xs) s) Q) (st : StOk K B W s σ H) (r : Reps K W vs xs) (a : Addr) (ha : H a = none) : Q (.ref a) (upd H a (.lst vs)) := by
  obtain ⟨l, st2⟩ := st.made (o := .lst vs) ha
  exact p _ _ _ l st2 ⟨a, vs, rfl, updl_same, upd_same, r.mono l⟩
theorem snd_tup {es : List Expr} {a : DA} {x1} {pos : Pos} (ha : SndA X E es a) : SndE X E (.Tuple es x1 pos) (dTup a) := by
  refine ⟨fun B => PE.imp (pe_tup (ha.h B)) fun σ H Q q => ?_⟩
  obtain ⟨W, s, st, p⟩ := q
  refine Pst.seq st p fun vs H1 W1 s1 xs l st r p => ?_
  split at p
  · rename_i hl
    exact ⟨by rw [Reps.length r]; exact le_line hl, fun a ha => p.newTup st r a ha⟩
  · exact p.elim
theorem snd_lst {es : List Expr} {a : DA} {pos : Pos} (ha : SndA X E es a) : SndE X E (.List es pos) (dLst a) := by
  refine ⟨fun B => PE.imp (pe_lst (ha.h B)) fun σ H Q q => ?_⟩
  obtain ⟨W, s, st, p⟩ := q
  refine Pst.seq st p fun vs H1 W1 s1 xs l st r p => ?_
  split at p
  · rename_i hl
    exact ⟨by rw [Reps.length r]; exact le_line hl, fun a ha => p.newLst st r a ha⟩
  · exact p.elim
end
end DL
/-! The data layer, part 4: operators, comparisons, tests. -/
namespace DL
open PySem PySem.Spec PyProof.Rows L2

theorem nn {α : Type} {a : α} {P : Prop} (h : (none : Option α) = some a) : P := by cases h
def Op2 (K : PySem.W.Frag) (r : R2) (op : D → D → Option SV) : Prop := ∀ (B : Bs) (W : Wd) (s : Sx) (σ : L2.St) (H : Hp) (E : XK) (x y : V) (dx dy : D) (sv : SV) (Q : VK),
  StOk K B W s σ H → Rep K W x dx → Rep K W y dy → op dx dy = some sv → Pst (okV K) K B W E σ (.ok sv s) Q → r x y H Q
def Op1 (K : PySem.W.Frag) (r : V → Hp → VK → Prop) (op : D → Option SV) : Prop := ∀ (B : Bs) (W : Wd) (s : Sx) (σ : L2.St) (H : Hp) (E : XK) (x : V) (dx : D) (sv : SV) (Q : VK),
  StOk K B W s σ H → Rep K W x dx → op dx = some sv → Pst (okV K) K B W E σ (.ok sv s) Q → r x H Q
def OpN (K : PySem.W.Frag) (r : List V → Hp → VK → Prop) (op : List D → Option SV) : Prop := ∀ (B : Bs) (W : Wd) (s : Sx) (σ : L2.St) (H : Hp) (E : XK) (xs : List V) (ds : List D) (sv : SV) (Q : VK),
  StOk K B W s σ H → Reps K W xs ds → op ds = some sv → Pst (okV K) K B W E σ (.ok sv s) Q → r xs H Q

def d2 (op : D → D → Option SV) (a b : DE) : DE := fun s => (a s).bind fun x s1 => (b s1).bind fun y s2 => R.opt (op (frz x) (frz y)) s2
def d1 (op : D → Option SV) (a : DE) : DE := fun s => (a s).bind fun x s1 => R.opt (op (frz x)) s1
def dN (op : List D → Option SV) (a : DA) : DE := fun s => (a s).bind fun xs s1 => R.opt (op xs) s1
def dTest (a : DE) : DT := fun s => (a s).bind fun x s1 => match x with
  | .val (.bl b) => .ok b s1
  | _ => .bad
theorem Pst.one {K : PySem.W.Frag} {B : Bs} {W : Wd} {E : XK} {σ : L2.St} {H : Hp} {s : Sx} {sv : SV} {v : V} {Q : VK} (p : Pst (okV K) K B W E σ (.ok sv s) Q) (st : StOk K B W s σ H) (o : okV K W H sv v) : Q v H := p v H W (Wd.Le.refl W) st o
section
variable {K : PySem.W.Frag} {B : Bs} {W : Wd} {E : XK} {σ : L2.St} {H : Hp} {s : Sx} {Q : VK}
theorem Pst.opt {o : Option SV} (p : Pst (okV K) K B W E σ (R.opt o s) Q) : ∃ sv, o = some sv ∧ Pst (okV K) K B W E σ (.ok sv s) Q := by
  cases o with
  | none => exact p.elim
  | some sv => exact ⟨sv, rfl, p⟩
theorem imp2 {r : R2} {op : D → D → Option SV} (ho : Op2 K r op) {a b : DE} (q : TG (okV K) K B E (d2 op a b) σ H Q) : tOp r (TG (okV K) K B E a) (TG (okV K) K B E b) σ H Q := by
  obtain ⟨W, s, st, p⟩ := q
  refine Pst.seqD st p fun v H1 W1 s1 x l st1 r1 p1 => Pst.seqD st1 p1 fun u H2 W2 s2 y l2 st2 r2 p2 => ?_
  obtain ⟨sv, e, p3⟩ := p2.opt
  exact ho B W2 s2 σ H2 E v u _ _ sv Q st2 (r1.mono l2) r2 e p3
theorem imp1 {r : V → Hp → VK → Prop} {op : D → Option SV} (ho : Op1 K r op) {a : DE} (q : TG (okV K) K B E (d1 op a) σ H Q) : tUn r (TG (okV K) K B E a) σ H Q := by
  obtain ⟨W, s, st, p⟩ := q
  refine Pst.seqD st p fun v H1 W1 s1 x l st1 r1 p1 => ?_
  obtain ⟨sv, e, p3⟩ := p1.opt
  exact ho B W1 s1 σ H1 E v _ sv Q st1 r1 e p3
theorem impN {r : List V → Hp → VK → Prop} {op : List D → Option SV} (ho : OpN K r op) {a : DA} (q : TG (okV K) K B E (dN op a) σ H Q) : tCB r (TG (okL K) K B E a) σ H Q := by
  obtain ⟨W, s, st, p⟩ := q
  refine Pst.seq st p fun vs H1 W1 s1 xs l st1 r1 p1 => ?_
  obtain ⟨sv, e, p3⟩ := p1.opt
  exact ho B W1 s1 σ H1 E vs xs sv Q st1 r1 e p3
theorem impT {a : DE} {Q : Bool → Hp → Prop} (q : TG okB K B E (dTest a) σ H Q) : TG (okV K) K B E a σ H fun x H' => ∃ k, x = .bl k ∧ Q k H' := by
  obtain ⟨W, s, st, p⟩ := q
  refine Pst.seq st p fun v H1 W1 s1 x l st1 r1 p1 => ?_
  cases x with
  | val d =>
    cases d with
    | bl b =>
      cases r1
      exact ⟨b, rfl, p1 b H1 W1 (Wd.Le.refl W1) st1 rfl⟩
    | _ => exact p1.elim
  | _ => exact p1.elim
end
section
variable {X : Cx} {E : XK} {a b : Expr} {da db : DE} {pos : Pos}
theorem snd_op {op : Operator} {r : R2} {o : D → D → Option SV} (h : OpR X (binaryOp op) r) (ho : Op2 X.K r o) (ha : SndE X E a da) (hb : SndE X E b db) : SndE X E (.BinOp a op b pos) (d2 o da db) :=
  ⟨fun B => PE.imp (pe_op h (ha.h B) (hb.h B)) fun _ _ _ q => imp2 ho q⟩
theorem snd_un {op : UnaryOp} {r : V → Hp → VK → Prop} {o : D → Option SV} (h : UnR X (unaryOp op) r) (ho : Op1 X.K r o) (ha : SndE X E a da) : SndE X E (.UnaryOp op a pos) (d1 o da) :=
  ⟨fun B => PE.imp (pe_un h (ha.h B)) fun _ _ _ q => imp1 ho q⟩
theorem snd_cmp {op : CmpOp} {r : R2} {o : D → D → Option SV} (h : OpR X (compareOp op) r) (ho : Op2 X.K r o) (ha : SndE X E a da) (hb : SndE X E b db) (hm : behindInMarks op b = false) : SndE X E (.Compare a [op] [b] pos) (d2 o da db) :=
  ⟨fun B => PE.imp (pe_cmpR h (ha.h B) (hb.h B) hm) fun _ _ _ q => imp2 ho q⟩
theorem snt_cmp {op : CmpOp} {r : R2} {o : D → D → Option SV} (h : OpR X (compareOp op) r) (ho : Op2 X.K r o) (ha : SndE X E a da) (hb : SndE X E b db) (hm : behindInMarks op b = false) : SndT X E (.Compare a [op] [b] pos) (dTest (d2 o da db)) :=
  ⟨fun B => PT.imp (pt_cmpR h (ha.h B) (hb.h B) hm) fun _ _ _ q => imp2 ho (impT q)⟩
/-- an expression whose value is a bool, as a test -/
theorem snt_val {e : Expr} {de : DE} (h : SndE X E e de) (he : ∀ whole, isTrue e X.env whole = (do let v ← whole; standAt e.pos; holding [v] (truthy v)) := by intro _; rfl) : SndT X E e (dTest de) :=
  ⟨fun B => PT.imp (pt_val (h.h B) he) fun _ _ _ q => impT q⟩
/-- a op1 b op2 c -/
def dChain (o o' : D → D → Option SV) (a b c : DE) : DE := fun s => (a s).bind fun x s1 => (b s1).bind fun y s2 => match o (frz x) (frz y) with
  | some (.val (.bl true)) => (c s2).bind fun z s3 => R.opt (o' (frz y) (frz z)) s3
  | some (.val (.bl false)) => .ok (.val (.bl false)) s2
  | _ => .bad
theorem imp_chain {K : PySem.W.Frag} {B : Bs} {E : XK} {σ : L2.St} {H : Hp} {Q : VK} {r r' : R2} {o o' : D → D → Option SV} (ho : Op2 K r o) (ho' : Op2 K r' o') {a b c : DE} (q : TG (okV K) K B E (dChain o o' a b c) σ H Q) :
    tChain r r' (TG (okV K) K B E a) (TG (okV K) K B E b) (TG (okV K) K B E c) σ H Q := by
  obtain ⟨W, s, st, p⟩ := q
  refine Pst.seqD st p fun v H1 W1 s1 x l st1 r1 p1 => Pst.seqD st1 p1 fun u H2 W2 s2 y l2 st2 r2 p2 => ?_
  cases e : o (frz x) (frz y) with
  | none => rw [e] at p2; exact p2.elim
  | some sv =>
    rw [e] at p2
    refine ho B W2 s2 σ H2 E v u _ _ sv _ st2 (r1.mono l2) r2 e ?_
    intro z H3 W3 l3 st3 o3
    cases sv with
    | val d =>
      cases d with
      | bl k =>
        cases o3
        refine ⟨k, rfl, ?_⟩
        cases k with
        | true =>
          rw [if_pos rfl]
          refine Pst.seqD st3 (Pst.mono l3 p2) fun w H4 W4 s4 z l4 st4 r4 p4 => ?_
          obtain ⟨sv, e2, p5⟩ := p4.opt
          exact ho' B W4 s4 σ H4 E u w _ _ sv Q st4 (r2.mono (l3.trans l4)) r4 e2 p5
        | false =>
          rw [if_neg Bool.false_ne_true]
          exact (Pst.mono l3 p2).one st3 (Rep.bl false)
      | _ => exact p2.elim
    | _ => exact p2.elim
theorem snd_chain {c : Expr} {dc : DE} {op op' : CmpOp} {r r' : R2} {o o' : D → D → Option SV} (h : OpR X (compareOp op) r) (h' : OpR X (compareOp op') r') (ho : Op2 X.K r o) (ho' : Op2 X.K r' o') (ha : SndE X E a da) (hb : SndE X E b db) (hc : SndE X E c dc)
    (hm : lastMarks [op, op'] [b, c] = false := by with_unfolding_all rfl) : SndE X E (.Compare a [op, op'] [b, c] pos) (dChain o o' da db dc) :=
  ⟨fun B => PE.imp (pe_chain h h' (ha.h B) (hb.h B) (hc.h B) hm) fun _ _ _ q => imp_chain ho ho' q⟩
theorem snt_chain {c : Expr} {dc : DE} {op op' : CmpOp} {r r' : R2} {o o' : D → D → Option SV} (h : OpR X (compareOp op) r) (h' : OpR X (compareOp op') r') (ho : Op2 X.K r o) (ho' : Op2 X.K r' o') (ha : SndE X E a da) (hb : SndE X E b db) (hc : SndE X E c dc)
    (hm : lastMarks [op, op'] [b, c] = false := by with_unfolding_all rfl) : SndT X E (.Compare a [op, op'] [b, c] pos) (dTest (dChain o o' da db dc)) :=
  ⟨fun B => PT.imp (pt_chain h h' (ha.h B) (hb.h B) (hc.h B) hm) fun _ _ _ q => imp_chain ho ho' (impT q)⟩
/-! and, or, not as tests -/
def tAndD (a b : DT) : DT := fun s => (a s).bind fun x s1 => if x = true then b s1 else .ok false s1
def tOrD (a b : DT) : DT := fun s => (a s).bind fun x s1 => if x = true then .ok true s1 else b s1
def tNotD (a : DT) : DT := fun s => (a s).bind fun x s1 => .ok (!x) s1
variable {ta tb : DT} {rest : List Expr}
theorem snw_and1 (ha : SndT X E a ta) : SndW X E (.BoolOp .And [a] pos) ta := ⟨fun B => pw_and1 (ha.h B)⟩
theorem snw_or1 (ha : SndT X E a ta) : SndW X E (.BoolOp .Or [a] pos) ta := ⟨fun B => pw_or1 (ha.h B)⟩
theorem snw_and (ha : SndT X E a ta) (hb : SndW X E (.BoolOp .And (b :: rest) pos) tb) : SndW X E (.BoolOp .And (a :: b :: rest) pos) (tAndD ta tb) := by
  refine ⟨fun B => PW.imp (pw_and (ha.h B) (hb.h B)) fun σ H Q q => ?_⟩
  obtain ⟨W, s, st, p⟩ := q
  refine Pst.seq (ok := okB) st p fun k H1 W1 s1 x l st1 r1 p1 => ?_
  have e1 : x = k := r1
  subst e1
  cases x with
  | true => exact ⟨W1, s1, st1, p1⟩
  | false => exact p1 false H1 W1 (Wd.Le.refl W1) st1 rfl
theorem snw_or (ha : SndT X E a ta) (hb : SndW X E (.BoolOp .Or (b :: rest) pos) tb) : SndW X E (.BoolOp .Or (a :: b :: rest) pos) (tOrD ta tb) := by
  refine ⟨fun B => PW.imp (pw_or (ha.h B) (hb.h B)) fun σ H Q q => ?_⟩
  obtain ⟨W, s, st, p⟩ := q
  refine Pst.seq (ok := okB) st p fun k H1 W1 s1 x l st1 r1 p1 => ?_
  have e1 : x = k := r1
  subst e1
  cases x with
  | true => exact p1 true H1 W1 (Wd.Le.refl W1) st1 rfl
  | false => exact ⟨W1, s1, st1, p1⟩
theorem snt_w (h : SndW X E a ta) : SndT X E a ta := ⟨fun B => (h.h B).pt⟩
theorem snt_not (ha : SndT X E a ta) : SndT X E (.UnaryOp .Not a pos) (tNotD ta) := by
  refine ⟨fun B => PT.imp (pt_not (ha.h B)) fun σ H Q q => ?_⟩
  obtain ⟨W, s, st, p⟩ := q
  refine Pst.seq (ok := okB) st p fun k H1 W1 s1 x l st1 r1 p1 => ?_
  cases r1
  exact p1 _ H1 W1 (Wd.Le.refl W1) st1 rfl
/-! and, or, not as values; a if t else b -/
def dAnd (a b : DE) : DE := fun s => (a s).bind fun x s1 => match x with
  | .val (.bl true) => b s1
  | .val (.bl false) => .ok (.val (.bl false)) s1
  | _ => .bad
def dOr (a b : DE) : DE := fun s => (a s).bind fun x s1 => match x with
  | .val (.bl true) => .ok (.val (.bl true)) s1
  | .val (.bl false) => b s1
  | _ => .bad
def dNot (a : DE) : DE := fun s => (a s).bind fun x s1 => match x with
  | .val (.bl b) => .ok (.val (.bl (!b))) s1
  | _ => .bad
def dIf (t : DT) (a b : DE) : DE := fun s => (t s).bind fun x s1 => if x = true then a s1 else b s1
theorem snd_one {op} (h : SndE X E a da) : SndE X E (.BoolOp op [a] pos) da := ⟨fun B => pe_one (h.h B)⟩
theorem snd_and (ha : SndE X E a da) (hb : SndE X E (.BoolOp .And (b :: rest) pos) db) : SndE X E (.BoolOp .And (a :: b :: rest) pos) (dAnd da db) := by
  refine ⟨fun B => PE.imp (pe_and (ha.h B) (hb.h B)) fun σ H Q q => ?_⟩
  obtain ⟨W, s, st, p⟩ := q
  refine Pst.seq (ok := okV X.K) st p fun v H1 W1 s1 x l st1 r1 p1 => ?_
  cases x with
  | val d =>
    cases d with
    | bl k =>
      cases r1
      refine ⟨k, rfl, ?_⟩
      cases k with
      | true => exact ⟨W1, s1, st1, p1⟩
      | false => exact p1.one st1 (Rep.bl false)
    | _ => exact p1.elim
  | _ => exact p1.elim
theorem snd_or (ha : SndE X E a da) (hb : SndE X E (.BoolOp .Or (b :: rest) pos) db) : SndE X E (.BoolOp .Or (a :: b :: rest) pos) (dOr da db) := by
  refine ⟨fun B => PE.imp (pe_or (ha.h B) (hb.h B)) fun σ H Q q => ?_⟩
  obtain ⟨W, s, st, p⟩ := q
  refine Pst.seq (ok := okV X.K) st p fun v H1 W1 s1 x l st1 r1 p1 => ?_
  cases x with
  | val d =>
    cases d with
    | bl k =>
      cases r1
      refine ⟨k, rfl, ?_⟩
      cases k with
      | true => exact p1.one st1 (Rep.bl true)
      | false => exact ⟨W1, s1, st1, p1⟩
    | _ => exact p1.elim
  | _ => exact p1.elim
theorem snd_not (ha : SndE X E a da) : SndE X E (.UnaryOp .Not a pos) (dNot da) := by
  refine ⟨fun B => PE.imp (pe_not (ha.h B)) fun σ H Q q => ?_⟩
  obtain ⟨W, s, st, p⟩ := q
  refine Pst.seq (ok := okV X.K) st p fun v H1 W1 s1 x l st1 r1 p1 => ?_
  cases x with
  | val d =>
    cases d with
    | bl k =>
      cases r1
      exact ⟨k, rfl, p1.one st1 (Rep.bl _)⟩
    | _ => exact p1.elim
  | _ => exact p1.elim
theorem snd_ifE {c : Expr} {tc : DT} (hc : SndT X E c tc) (ha : SndE X E a da) (hb : SndE X E b db) : SndE X E (.IfExp c a b pos) (dIf tc da db) := by
  refine ⟨fun B => PE.imp (pe_ifExp (hc.h B) (ha.h B) (hb.h B)) fun σ H Q q => ?_⟩
  obtain ⟨W, s, st, p⟩ := q
  refine Pst.seq (ok := okB) st p fun k H1 W1 s1 x l st1 r1 p1 => ?_
  have e1 : x = k := r1
  subst e1
  cases x with
  | true => exact ⟨W1, s1, st1, p1⟩
  | false => exact ⟨W1, s1, st1, p1⟩
end

/-! ### operators -/
def oAdd : D → D → Option SV
  | .int i, .int j => some (.val (.int (i + j)))
  | .str a, .str b => if a.length + b.length ≤ lim then some (.val (.str (a ++ b))) else none
  | .lst a, .lst b => if a.length + b.length ≤ lim then some (.own (a ++ b)) else none
  | .tup a, .tup b => if a.length + b.length ≤ lim then some (.val (.tup (a ++ b))) else none
  | _, _ => none
def oSub : D → D → Option SV
  | .int i, .int j => some (.val (.int (i - j)))
  | _, _ => none
def mulOk (i j : Int) : Bool := decide (-(2 ^ 64) < i ∧ i < 2 ^ 64) || decide (-(2 ^ 64) < j ∧ j < 2 ^ 64) || decide (i.natAbs.log2 + j.natAbs.log2 < 1000000)
def oMul : D → D → Option SV
  | .int i, .int j => if mulOk i j = true then some (.val (.int (i * j))) else none
  | .lst a, .int k => if k ≤ 1000000 ∧ -1000000 ≤ k ∧ a.length * k.toNat ≤ lim then some (.own (List.replicate k.toNat a).flatten) else none
  | _, _ => none
def oFdiv : D → D → Option SV
  | .int i, .int j => if 0 < j ∧ j.natAbs.log2 < 9000 then some (.val (.int (i / j))) else none
  | _, _ => none
def oMod : D → D → Option SV
  | .int i, .int j => if 0 < j then some (.val (.int (i % j))) else none
  | _, _ => none
def oPow : D → D → Option SV
  | .int i, .int j => if 0 ≤ j ∧ j ≤ 1000000 ∧ i.natAbs < 2 ^ 64 then some (.val (.int (i ^ j.toNat))) else none
  | _, _ => none
def oNeg : D → Option SV
  | .int i => some (.val (.int (-i)))
  | _ => none
abbrev rAddA (K : PySem.W.Frag) : R2 := fun x y H Q => (∃ i j, x = .int i ∧ y = .int j ∧ Q (.int (i + j)) H) ∨ (∃ i j, x = .str i ∧ y = .str j ∧ i.length + j.length ≤ sizeLine ∧ Q (.str (i ++ j)) H) ∨ rCat x y H Q ∨ rCatA K x y H Q
section
variable {X : Cx}
theorem opr_add : OpR X (binaryOp .Add) (rAddA X.K) := op_add.or (op_add_str.or (op_cat.or op_catA))
end
section
variable {K : PySem.W.Frag}
theorem strOk_app {a b : Str} (ha : PyData.strOk a = true) (hb : PyData.strOk b = true) : PyData.strOk (a ++ b) = true := by
  unfold PyData.strOk at *
  show (a.cps ++ b.cps).all _ = true
  rw [Array.all_append, ha, hb]
  rfl
theorem okS_app {a b : Str} (ha : okS a = true) (hb : okS b = true) (h : a.length + b.length ≤ lim) : okS (a ++ b) = true := by
  unfold okS
  rw [strOk_app (okS.str ha) (okS.str hb), Bool.true_and]
  refine decide_eq_true ?_
  show (a.cps ++ b.cps).size ≤ lim
  rw [Array.size_append]; exact h
theorem o2_add : Op2 K (rAddA K) oAdd := by
  intro B W s σ H E x y dx dy sv Q st rx ry e p
  cases rx <;> cases ry <;> try (exact nn e)
  · cases e
    exact .inl ⟨_, _, rfl, rfl, p.one st (Rep.int _)⟩
  · rename_i a ha b hb
    simp only [oAdd] at e
    split at e
    · cases e
      exact .inr (.inl ⟨_, _, rfl, rfl, lim_line (by assumption), p.one st (Rep.str _ (okS_app ha hb (by assumption)))⟩)
    · cases e
  · rename_i a vs ds h1 r1 b ws es h2 r2
    simp only [oAdd] at e
    split at e
    · rename_i hl
      cases e
      have hz : vs.length + ws.length ≤ sizeLine := by rw [Reps.length r1, Reps.length r2]; exact lim_line hl
      refine .inr (.inr (.inr ⟨a, b, vs, ws, rfl, rfl, .of (st.sub _ _ h1), .of (st.sub _ _ h2), hz, ?_, ?_, fun _ _ q hq => p.newTup st (r1.append r2) q hq⟩))
      · rintro rfl
        cases r1
        exact p.one st (Rep.tup h2 r2)
      · rintro _ rfl
        cases r2
        rw [List.append_nil] at p
        exact p.one st (Rep.tup h1 r1)
    · cases e
  · rename_i a vs ds h1 r1 b ws es h2 r2
    simp only [oAdd] at e
    split at e
    · rename_i hl
      cases e
      have hz : vs.length + ws.length ≤ sizeLine := by rw [Reps.length r1, Reps.length r2]; exact lim_line hl
      exact .inr (.inr (.inl ⟨a, b, vs, ws, rfl, rfl, st.sub _ _ h1, st.sub _ _ h2, hz, fun q hq => p.newLst st (r1.append r2) q hq⟩))
    · cases e
theorem o2_sub : Op2 K (rI0 fun i j => .int (i - j)) oSub := by
  intro B W s σ H E x y dx dy sv Q st rx ry e p
  cases rx <;> cases ry <;> try (exact nn e)
  cases e
  exact ⟨_, _, rfl, rfl, p.one st (Rep.int _)⟩
theorem mulOk_ok {i j : Int} (h : mulOk i j = true) : CMul i j ∨ CMulW i j := by
  simp only [mulOk, Bool.or_eq_true, decide_eq_true_eq] at h
  rcases h with (h | h) | h
  · exact .inl (.inl h)
  · exact .inl (.inr h)
  · exact .inr h
theorem o2_mul : Op2 K (fun x y H Q => rI CMul (fun i j => .int (i * j)) x y H Q ∨ rI CMulW (fun i j => .int (i * j)) x y H Q ∨ rRep x y H Q) oMul := by
  intro B W s σ H E x y dx dy sv Q st rx ry e p
  cases rx <;> cases ry <;> try (exact nn e)
  · simp only [oMul] at e
    split at e
    · rename_i hm
      cases e
      rcases mulOk_ok hm with h | h
      · exact .inl ⟨_, _, rfl, rfl, h, p.one st (Rep.int _)⟩
      · exact .inr (.inl ⟨_, _, rfl, rfl, h, p.one st (Rep.int _)⟩)
    · cases e
  · rename_i a vs ds h1 r1 k
    simp only [oMul] at e
    split at e
    · rename_i hm
      cases e
      exact .inr (.inr ⟨a, k, vs, rfl, rfl, st.sub _ _ h1, by omega, by omega, by rw [Reps.length r1]; exact lim_line hm.2.2, fun q hq => p.newLst st (r1.repL _) q hq⟩)
    · cases e
theorem o2_fdiv : Op2 K (rI CDivW fun i j => .int (i / j)) oFdiv := by
  intro B W s σ H E x y dx dy sv Q st rx ry e p
  cases rx <;> cases ry <;> try (exact nn e)
  simp only [oFdiv] at e
  split at e
  · rename_i h
    cases e
    exact ⟨_, _, rfl, rfl, h, p.one st (Rep.int _)⟩
  · cases e
theorem o2_mod : Op2 K (rI (fun _ j => 0 < j) fun i j => .int (i % j)) oMod := by
  intro B W s σ H E x y dx dy sv Q st rx ry e p
  cases rx <;> cases ry <;> try (exact nn e)
  simp only [oMod] at e
  split at e
  · rename_i h
    cases e
    exact ⟨_, _, rfl, rfl, h, p.one st (Rep.int _)⟩
  · cases e
theorem o2_pow : Op2 K (rI CPow fun i j => .int (i ^ j.toNat)) oPow := by
  intro B W s σ H E x y dx dy sv Q st rx ry e p
  cases rx <;> cases ry <;> try (exact nn e)
  simp only [oPow] at e
  split at e
  · rename_i h
    cases e
    exact ⟨_, _, rfl, rfl, h, p.one st (Rep.int _)⟩
  · cases e
theorem o1_neg : Op1 K (rU fun i => .int (-i)) oNeg := by
  intro B W s σ H E x dx sv Q st rx e p
  cases rx <;> try (exact nn e)
  cases e
  exact ⟨_, rfl, p.one st (Rep.int _)⟩
end
section
variable {X : Cx} {E : XK} {a b : Expr} {da db : DE} {pos : Pos}
theorem opr_mul : OpR X (binaryOp .Mult) (fun x y H Q => rI CMul (fun i j => .int (i * j)) x y H Q ∨ rI CMulW (fun i j => .int (i * j)) x y H Q ∨ rRep x y H Q) := op_mul.or (op_mulW.or op_rep)
theorem snd_add (ha : SndE X E a da) (hb : SndE X E b db) : SndE X E (.BinOp a .Add b pos) (d2 oAdd da db) := snd_op opr_add o2_add ha hb
theorem snd_sub (ha : SndE X E a da) (hb : SndE X E b db) : SndE X E (.BinOp a .Sub b pos) (d2 oSub da db) := snd_op op_sub o2_sub ha hb
theorem snd_mul (ha : SndE X E a da) (hb : SndE X E b db) : SndE X E (.BinOp a .Mult b pos) (d2 oMul da db) := snd_op opr_mul o2_mul ha hb
theorem snd_fdiv (ha : SndE X E a da) (hb : SndE X E b db) : SndE X E (.BinOp a .FloorDiv b pos) (d2 oFdiv da db) := snd_op op_fdivW o2_fdiv ha hb
theorem snd_mod (ha : SndE X E a da) (hb : SndE X E b db) : SndE X E (.BinOp a .Mod b pos) (d2 oMod da db) := snd_op op_mod o2_mod ha hb
theorem snd_pow (ha : SndE X E a da) (hb : SndE X E b db) : SndE X E (.BinOp a .Pow b pos) (d2 oPow da db) := snd_op op_pow o2_pow ha hb
theorem snd_neg (ha : SndE X E a da) : SndE X E (.UnaryOp .USub a pos) (d1 oNeg da) := snd_un un_neg o1_neg ha
end
end DL
/-! The data layer, part 5: comparisons. -/
namespace DL
open PySem PySem.Spec PyProof.Rows L2

mutual
def toP : D → PyData
  | .non => .none
  | .bl b => .bool b
  | .int i => .int i
  | .str s => .str s
  | .tup ds => .tuple (toPs ds)
  | .lst ds => .list (toPs ds)
  | .scr ns => .list (ns.map .int)
  | .dct _ _ => .none
  | .obj _ => .none
  | .exc _ => .none
  | .fn _ => .none
def toPs : List D → List PyData
  | [] => []
  | d :: r => toP d :: toPs r
end
mutual
/-- how deep, a thousand where it is no plain data -/
def lvl : D → Nat
  | .tup ds => lvls ds + 1
  | .lst ds => lvls ds + 1
  | .scr _ => 1
  | .dct _ _ => 1000
  | .obj _ => 1000
  | .exc _ => 1000
  | .fn _ => 1000
  | _ => 0
def lvls : List D → Nat
  | [] => 0
  | d :: r => max (lvl d) (lvls r)
end
theorem toPs_map : ∀ ds : List D, toPs ds = ds.map toP
  | [] => by simp [toPs]
  | d :: r => by simp [toPs, toPs_map r]
theorem canLay_ints : ∀ ns : List Int, PyData.canLayAll0 (ns.map PyData.int) = true
  | [] => rfl
  | n :: r => by simp [PyData.canLayAll0, PyData.canLay0, canLay_ints r]
theorem depth_ints : ∀ ns : List Int, PyData.depthAll (ns.map PyData.int) = 0
  | [] => rfl
  | n :: r => by simp [PyData.depthAll, PyData.depth, depth_ints r]
section
variable {K : PySem.W.Frag} {W : Wd} {H : Hp}
theorem dp_ints : ∀ ns : List Int, DpAll K H (ns.map V.int) (ns.map PyData.int)
  | [] => .nil
  | n :: r => .cons (.int n) (dp_ints r)
mutual
theorem dp_of (sub : ∀ a o, W.F a = some o → H a = some o) : ∀ {v : V} {d : D}, Rep K W v d → lvl d ≤ 60 → Dp K H v (toP d) ∧ (toP d).canLay0 = true ∧ (toP d).depth = lvl d
  | _, _, .non, _ => by simp only [toP, lvl]; exact ⟨.non, rfl, rfl⟩
  | _, _, .bl b, _ => by simp only [toP, lvl]; exact ⟨.bl b, rfl, rfl⟩
  | _, _, .int i, _ => by simp only [toP, lvl]; exact ⟨.int i, rfl, rfl⟩
  | _, _, .str s h, _ => by simp only [toP, lvl]; exact ⟨.str s, okS.str h, rfl⟩
  | _, _, .tup h r, hl => by
    simp only [lvl] at hl
    obtain ⟨q1, q2, q3⟩ := dps_of sub r (by omega)
    simp only [toP, lvl]
    exact ⟨.tup (.of (sub _ _ h)) q1, q2, by simp only [PyData.depth, q3]⟩
  | _, _, .lst h r, hl => by
    simp only [lvl] at hl
    obtain ⟨q1, q2, q3⟩ := dps_of sub r (by omega)
    simp only [toP, lvl]
    exact ⟨.lst (.of (sub _ _ h)) q1, q2, by simp only [PyData.depth, q3]⟩
  | _, _, .scr (ns := ns) h, hl => by
    simp only [toP, lvl]
    exact ⟨.lst (Same.seq (K := K) (H := W.F) (H' := H) sub h) (dp_ints ns), canLay_ints ns, by simp only [PyData.depth, depth_ints]⟩
  | _, _, .dct _ _ _, hl => by simp [lvl] at hl
  | _, _, .obj _, hl => by simp [lvl] at hl
  | _, _, .exc _, hl => by simp [lvl] at hl
  | _, _, .fn _, hl => by simp [lvl] at hl
theorem dps_of (sub : ∀ a o, W.F a = some o → H a = some o) : ∀ {vs : List V} {ds : List D}, Reps K W vs ds → lvls ds ≤ 60 → DpAll K H vs (toPs ds) ∧ PyData.canLayAll0 (toPs ds) = true ∧ PyData.depthAll (toPs ds) = lvls ds
  | _, _, .nil, _ => by simp only [toPs, lvls]; exact ⟨.nil, rfl, rfl⟩
  | _, _, .cons h r, hl => by
    simp only [lvls] at hl
    obtain ⟨p1, p2, p3⟩ := dp_of sub h (by omega)
    obtain ⟨q1, q2, q3⟩ := dps_of sub r (by omega)
    simp only [toPs, lvls]
    exact ⟨.cons p1 q1, by simp only [PyData.canLayAll0, p2, q2, Bool.and_self], by simp only [PyData.depthAll, p3, q3]⟩
end
theorem shaped_of {d : D} (h1 : (toP d).canLay0 = true) (h2 : (toP d).depth = lvl d) (h : lvl d ≤ 60) : SeqAt.shaped (toP d) = true := by
  unfold SeqAt.shaped
  rw [h1, h2, Bool.true_and]
  exact decide_eq_true (by omega)
end

def eqv (d e : D) : Bool := PyData.eqv (toP d) (toP e)
def oEq : D → D → Option SV := fun d e => if lvl d ≤ 60 ∧ lvl e ≤ 60 then some (.val (.bl (eqv d e))) else none
def oNe : D → D → Option SV := fun d e => if lvl d ≤ 60 ∧ lvl e ≤ 60 then some (.val (.bl (!eqv d e))) else none
section
variable {K : PySem.W.Frag}
theorem o2_eq : Op2 K (rEqD K) oEq := by
  intro B W s σ H E x y dx dy sv Q st rx ry e p
  unfold oEq at e
  split at e
  · rename_i h
    cases e
    obtain ⟨p1, p2, p3⟩ := dp_of st.sub rx h.1
    obtain ⟨q1, q2, q3⟩ := dp_of st.sub ry h.2
    exact ⟨_, _, p1, q1, shaped_of p2 p3 h.1, shaped_of q2 q3 h.2, p.one st (Rep.bl _)⟩
  · cases e
theorem o2_ne : Op2 K (rNeD K) oNe := by
  intro B W s σ H E x y dx dy sv Q st rx ry e p
  unfold oNe at e
  split at e
  · rename_i h
    cases e
    obtain ⟨p1, p2, p3⟩ := dp_of st.sub rx h.1
    obtain ⟨q1, q2, q3⟩ := dp_of st.sub ry h.2
    exact ⟨_, _, p1, q1, shaped_of p2 p3 h.1, shaped_of q2 q3 h.2, p.one st (Rep.bl _)⟩
  · cases e
end
/-! in -/
def rInG (K : PySem.W.Frag) (neg : Bool) : R2 := fun x y H Q => ∃ d ds, Dp K H x d ∧ (Dp K H y (.list ds) ∨ Dp K H y (.tuple ds)) ∧ SeqAt.shaped d = true ∧ PyData.canLayAll0 ds = true ∧ Q (.bl (if neg then !(ds.any fun z => PyData.eqv z d) else ds.any fun z => PyData.eqv z d)) H
section
variable {X : Cx}
theorem op_inG (hu : X.A.units + 65 < cLine) : OpR X (compareOp .In) (rInG X.K false) := by
  intro pins s σ H x y v u Q I rx ry h
  obtain ⟨d, ds, hd, he, sd, se, q⟩ := h
  obtain ⟨as, r1⟩ := Dp.reads I d x v hd rx
  rcases he with he | he
  · obtain ⟨bs, r2⟩ := Dp.reads I (.list ds) y u he ry
    exact SeqAt.in_list_reads r2 r1 se (SeqAt.canLay_of_shaped sd) (room_in_shaped sd hu) ⟨.bl _, H, I, rfl, q⟩
  · obtain ⟨bs, r2⟩ := Dp.reads I (.tuple ds) y u he ry
    exact SeqAt.in_tuple_reads r2 r1 se (SeqAt.canLay_of_shaped sd) (room_in_shaped sd hu) ⟨.bl _, H, I, rfl, q⟩
theorem op_notInG (hu : X.A.units + 65 < cLine) : OpR X (compareOp .NotIn) (rInG X.K true) := by
  intro pins s σ H x y v u Q I rx ry h
  obtain ⟨d, ds, hd, he, sd, se, q⟩ := h
  obtain ⟨as, r1⟩ := Dp.reads I d x v hd rx
  rcases he with he | he
  · obtain ⟨bs, r2⟩ := Dp.reads I (.list ds) y u he ry
    exact SeqAt.notIn_list_reads r2 r1 se (SeqAt.canLay_of_shaped sd) (room_in_shaped sd hu) ⟨.bl _, H, I, rfl, q⟩
  · obtain ⟨bs, r2⟩ := Dp.reads I (.tuple ds) y u he ry
    exact SeqAt.notIn_tuple_reads r2 r1 se (SeqAt.canLay_of_shaped sd) (room_in_shaped sd hu) ⟨.bl _, H, I, rfl, q⟩
end
def anyEq (x : D) (ds : List D) : Bool := ds.any fun z => eqv z x
def inSeq (neg : Bool) (x : D) (ds : List D) : Option SV := if lvl x ≤ 60 ∧ lvls ds ≤ 59 then some (.val (.bl (if neg then !anyEq x ds else anyEq x ds))) else none
def oInS (neg : Bool) : D → D → Option SV := fun x y => match y with
  | .lst ds => inSeq neg x ds
  | .tup ds => inSeq neg x ds
  | _ => none
section
variable {K : PySem.W.Frag}
theorem any_toPs (d : D) (ds : List D) : ((toPs ds).any fun z => PyData.eqv z (toP d)) = anyEq d ds := by
  rw [toPs_map, List.any_map]; rfl
theorem o2_in {neg : Bool} : Op2 K (rInG K neg) (oInS neg) := by
  intro B W s σ H E x y dx dy sv Q st rx ry e p
  have go : ∀ (ds : List D) (vs : List V), Reps K W vs ds → inSeq neg dx ds = some sv → (∀ z, DpAll K H vs z → Dp K H y (.list z) ∨ Dp K H y (.tuple z)) → rInG K neg x y H Q := fun ds vs r e i => by
    unfold inSeq at e
    split at e
    · rename_i h
      cases e
      obtain ⟨p1, p2, p3⟩ := dp_of st.sub rx h.1
      obtain ⟨q1, q2, q3⟩ := dps_of st.sub r (by omega)
      refine ⟨_, _, p1, i _ q1, shaped_of p2 p3 h.1, q2, ?_⟩
      rw [any_toPs]
      exact p.one st (Rep.bl _)
    · cases e
  cases ry <;> try (exact nn e)
  · rename_i a vs ds h r
    exact go ds vs r e fun z hz => .inr (.tup (.of (st.sub _ _ h)) hz)
  · rename_i a vs ds h r
    exact go ds vs r e fun z hz => .inl (.lst (.of (st.sub _ _ h)) hz)
end
/-! < of ints, texts, tuples of ints -/
def allInts : List D → Option (List Int)
  | [] => some []
  | .int i :: r => (allInts r).map (i :: ·)
  | _ :: _ => none
theorem allInts_ok {K : PySem.W.Frag} {W : Wd} : ∀ {vs : List V} {ds : List D} {ns : List Int}, Reps K W vs ds → allInts ds = some ns → vs = ns.map V.int
  | _, _, _, .nil, e => by simp only [allInts] at e; cases e; rfl
  | _, _, ns, .cons (d := d) h r, e => by
    cases d with
    | int i =>
      simp only [allInts] at e
      obtain ⟨ms, e1, rfl⟩ := Option.map_eq_some_iff.mp e
      cases h
      rw [allInts_ok r e1]
      rfl
    | _ => exact nn e
def oLt : D → D → Option SV
  | .int i, .int j => some (.val (.bl (decide (i < j))))
  | .tup a, .tup b => match allInts a, allInts b with
    | some ns, some ms => some (.val (.bl (HT.lexLt ns ms)))
    | _, _ => none
  | _, _ => none
def oLe : D → D → Option SV
  | .int i, .int j => some (.val (.bl (decide (i ≤ j))))
  | _, _ => none
def oGt : D → D → Option SV
  | .int i, .int j => some (.val (.bl (decide (j < i))))
  | _, _ => none
def oGe : D → D → Option SV
  | .int i, .int j => some (.val (.bl (decide (j ≤ i))))
  | _, _ => none
section
variable {K : PySem.W.Frag}
theorem o2_lt : Op2 K (fun x y H Q => rI0 (fun i j => .bl (decide (i < j))) x y H Q ∨ rLtT K x y H Q) oLt := by
  intro B W s σ H E x y dx dy sv Q st rx ry e p
  cases rx <;> cases ry <;> try (exact nn e)
  · cases e
    exact .inl ⟨_, _, rfl, rfl, p.one st (Rep.bl _)⟩
  · rename_i a vs ds h r a' vs' ds' h' r'
    simp only [oLt] at e
    split at e
    · rename_i ns ms e1 e2
      cases e
      refine .inr ⟨a, a', ns, ms, rfl, rfl, .of ?_, .of ?_, p.one st (Rep.bl _)⟩
      · rw [st.sub _ _ h, allInts_ok r e1]
      · rw [st.sub _ _ h', allInts_ok r' e2]
    · cases e
theorem o2_le : Op2 K (rI0 fun i j => .bl (decide (i ≤ j))) oLe := by
  intro B W s σ H E x y dx dy sv Q st rx ry e p
  cases rx <;> cases ry <;> try (exact nn e)
  cases e
  exact ⟨_, _, rfl, rfl, p.one st (Rep.bl _)⟩
theorem o2_gt : Op2 K (rI0 fun i j => .bl (decide (j < i))) oGt := by
  intro B W s σ H E x y dx dy sv Q st rx ry e p
  cases rx <;> cases ry <;> try (exact nn e)
  cases e
  exact ⟨_, _, rfl, rfl, p.one st (Rep.bl _)⟩
theorem o2_ge : Op2 K (rI0 fun i j => .bl (decide (j ≤ i))) oGe := by
  intro B W s σ H E x y dx dy sv Q st rx ry e p
  cases rx <;> cases ry <;> try (exact nn e)
  cases e
  exact ⟨_, _, rfl, rfl, p.one st (Rep.bl _)⟩
end
/-! is -/
def isNon : D → Bool
  | .non => true
  | _ => false
def oIs : D → D → Option SV
  | x, .non => some (.val (.bl (isNon x)))
  | .bl a, .bl b => some (.val (.bl (decide (a = b))))
  | _, _ => none
def oIsNot : D → D → Option SV
  | x, .non => some (.val (.bl (!isNon x)))
  | .bl a, .bl b => some (.val (.bl (!decide (a = b))))
  | _, _ => none
section
variable {K : PySem.W.Frag}
theorem isNon_ok {W : Wd} {x : V} {d : D} (r : Rep K W x d) : decide (x = .non) = isNon d := by cases r <;> rfl
theorem o2_is : Op2 K (fun x y H Q => (y = .non ∧ Q (.bl (decide (x = .non))) H) ∨ rIsB x y H Q) oIs := by
  intro B W s σ H E x y dx dy sv Q st rx ry e p
  cases ry with
  | non =>
    refine .inl ⟨rfl, ?_⟩
    rw [isNon_ok rx]
    have e' : some (SV.val (.bl (isNon dx))) = some sv := by cases rx <;> exact e
    cases e'
    exact p.one st (Rep.bl _)
  | bl b =>
    cases rx <;> try (exact nn e)
    cases e
    exact .inr ⟨_, _, rfl, rfl, p.one st (Rep.bl _)⟩
  | _ => cases rx <;> exact nn e
theorem o2_isnot : Op2 K (fun x y H Q => (y = .non ∧ Q (.bl (!decide (x = .non))) H) ∨ rNotB x y H Q) oIsNot := by
  intro B W s σ H E x y dx dy sv Q st rx ry e p
  cases ry with
  | non =>
    refine .inl ⟨rfl, ?_⟩
    rw [isNon_ok rx]
    have e' : some (SV.val (.bl (!isNon dx))) = some sv := by cases rx <;> exact e
    cases e'
    exact p.one st (Rep.bl _)
  | bl b =>
    cases rx <;> try (exact nn e)
    cases e
    exact .inr ⟨_, _, rfl, rfl, p.one st (Rep.bl _)⟩
  | _ => cases rx <;> exact nn e
end
section
variable {X : Cx}
theorem opr_lt (hu : X.A.units < cLine) : OpR X (compareOp .Lt) (fun x y H Q => rI0 (fun i j => .bl (decide (i < j))) x y H Q ∨ rLtT X.K x y H Q) := op_lt.or (op_ltT hu)
theorem opr_is : OpR X (compareOp .Is) (fun x y H Q => (y = .non ∧ Q (.bl (decide (x = .non))) H) ∨ rIsB x y H Q) := op_isN.or op_isBl
theorem opr_isnot : OpR X (compareOp .IsNot) (fun x y H Q => (y = .non ∧ Q (.bl (!decide (x = .non))) H) ∨ rNotB x y H Q) := op_notN.or op_notBl
end
end DL
/-! The data layer, part 6: items, slices, lengths; what is looked at without being given away. -/
namespace DL
open PySem PySem.Spec PyProof.Rows L2

/-- a value that is looked at: a frozen one, or a list, a dict of somebody's own -/
inductive Vw (K : PySem.W.Frag) (W : Wd) (H : Hp) : V → D → Prop
  | rep {v : V} {d : D} : Rep K W v d → Vw K W H v d
  | own {a : Addr} {vs : List V} {ds : List D} : H a = some (.lst vs) → Reps K W vs ds → Vw K W H (.ref a) (.lst ds)
  | ownD {a : Addr} {kvs : List (List Key × V)} {ks : List (List Int)} {ds : List D} : H a = some (.dT kvs) → kvs.map (·.1) = keyT ks → Reps K W (kvs.map (·.2)) ds → Vw K W H (.ref a) (.dct ks ds)
theorem SvOk.vw {K : PySem.W.Frag} {W : Wd} {H : Hp} {r : Root} {k : Nat} {sv : SV} {v : V} (h : SvOk K W H r k sv v) : Vw K W H v (frz sv) := by
  cases sv with
  | val d => exact .rep h
  | own ds => obtain ⟨a, vs, rfl, _, h2, h3⟩ := h; exact .own h2 h3
  | ownD ks ds => obtain ⟨a, kvs, rfl, _, h2, h3, h4⟩ := h; exact .ownD h2 h3 h4
theorem Vw.keep {K : PySem.W.Frag} {W W' : Wd} {H : Hp} {v : V} {d : D} (h : Vw K W H v d) (l : W.Le W') : Vw K W' H v d := by
  cases h with
  | rep h => exact .rep (h.mono l)
  | own h r => exact .own h (r.mono l)
  | ownD h e r => exact .ownD h e (r.mono l)

/-- the first operand is looked at; the second; both -/
def OpV (K : PySem.W.Frag) (r : R2) (op : D → D → Option SV) : Prop := ∀ (B : Bs) (W : Wd) (s : Sx) (σ : L2.St) (H : Hp) (E : XK) (x y : V) (dx dy : D) (sv : SV) (Q : VK),
  StOk K B W s σ H → Vw K W H x dx → Rep K W y dy → op dx dy = some sv → Pst (okV K) K B W E σ (.ok sv s) Q → r x y H Q
def OpW (K : PySem.W.Frag) (r : R2) (op : D → D → Option SV) : Prop := ∀ (B : Bs) (W : Wd) (s : Sx) (σ : L2.St) (H : Hp) (E : XK) (x y : V) (dx dy : D) (sv : SV) (Q : VK),
  StOk K B W s σ H → Rep K W x dx → Vw K W H y dy → op dx dy = some sv → Pst (okV K) K B W E σ (.ok sv s) Q → r x y H Q
def OpU (K : PySem.W.Frag) (r : V → Hp → VK → Prop) (op : D → Option SV) : Prop := ∀ (B : Bs) (W : Wd) (s : Sx) (σ : L2.St) (H : Hp) (E : XK) (x : V) (dx : D) (sv : SV) (Q : VK),
  StOk K B W s σ H → Vw K W H x dx → op dx = some sv → Pst (okV K) K B W E σ (.ok sv s) Q → r x H Q
theorem OpV.op {K : PySem.W.Frag} {r : R2} {op : D → D → Option SV} (h : OpV K r op) : Op2 K r op := fun B W s σ H E x y dx dy sv Q st rx ry e p => h B W s σ H E x y dx dy sv Q st (.rep rx) ry e p
theorem OpW.op {K : PySem.W.Frag} {r : R2} {op : D → D → Option SV} (h : OpW K r op) : Op2 K r op := fun B W s σ H E x y dx dy sv Q st rx ry e p => h B W s σ H E x y dx dy sv Q st rx (.rep ry) e p
theorem OpU.op {K : PySem.W.Frag} {r : V → Hp → VK → Prop} {op : D → Option SV} (h : OpU K r op) : Op1 K r op := fun B W s σ H E x dx sv Q st rx e p => h B W s σ H E x dx sv Q st (.rep rx) e p

/-- what a slot shows -/
def view (s : Sx) (i : Nat) : Option D := match s.ρ[i]? with
  | some (some (.val (.obj n))) => (match s.M[n]? with
    | some (.lst ds) => some (.lst ds)
    | _ => none)
  | some (some sv) => some (frz sv)
  | _ => none
theorem StOk.view {K : PySem.W.Frag} {B : Bs} {W : Wd} {s : Sx} {σ : L2.St} {H : Hp} (st : StOk K B W s σ H) {i : Nat} {d : D} (e : DL.view s i = some d) : ∃ v, σ[i]? = some (some v) ∧ Vw K W H v d := by
  unfold DL.view at e
  split at e
  · rename_i n e1
    split at e
    · rename_i ds e2
      cases e
      obtain ⟨v, h1, h2⟩ := st.slots i _ e1
      obtain ⟨a, vs, e3, e4, e5, e6⟩ := st.objs n _ e2
      cases h2 with
      | obj e7 =>
        rw [e3] at e7; cases e7
        exact ⟨_, h1, .own e5 e6⟩
    · cases e
  · rename_i sv _ e1
    cases e
    obtain ⟨v, h1, h2⟩ := st.slots i _ e1
    exact ⟨v, h1, h2.vw⟩
  · cases e
/-- the view of a slot and a second operand -/
def dV2 (op : D → D → Option SV) (i : Nat) (b : DE) : DE := fun s => (b s).bind fun y s2 => match view s2 i with
  | some d => R.opt (op d (frz y)) s2
  | none => .bad
def dW2 (op : D → D → Option SV) (a : DE) (i : Nat) : DE := fun s => (a s).bind fun x s1 => match view s1 i with
  | some d => R.opt (op (frz x) d) s1
  | none => .bad
def dV1 (op : D → Option SV) (i : Nat) : DE := fun s => match view s i with
  | some d => R.opt (op d) s
  | none => .bad
section
variable {K : PySem.W.Frag} {B : Bs} {E : XK} {σ : L2.St} {H : Hp} {Q : VK}
theorem impV2 {r : R2} {op : D → D → Option SV} (ho : OpV K r op) {i : Nat} {b : DE} (q : TG (okV K) K B E (dV2 op i b) σ H Q) (hi : ∃ v, σ[i]? = some (some v)) : tOp r (tVar i) (TG (okV K) K B E b) σ H Q := by
  obtain ⟨v, hv⟩ := hi
  obtain ⟨W, s, st, p⟩ := q
  refine ⟨v, hv, Pst.seqD st p fun u H2 W2 s2 y l2 st2 r2 p2 => ?_⟩
  cases e : view s2 i with
  | none => rw [e] at p2; exact p2.elim
  | some d =>
    rw [e] at p2
    obtain ⟨w, hw, vw⟩ := st2.view e
    rw [hv] at hw; cases hw
    obtain ⟨sv, e2, p3⟩ := p2.opt
    exact ho B W2 s2 σ H2 E v u _ _ sv Q st2 vw r2 e2 p3
theorem impW2 {r : R2} {op : D → D → Option SV} (ho : OpW K r op) {i : Nat} {a : DE} (q : TG (okV K) K B E (dW2 op a i) σ H Q) : tOp r (TG (okV K) K B E a) (tVar i) σ H Q := by
  obtain ⟨W, s, st, p⟩ := q
  refine Pst.seqD st p fun u H2 W2 s2 y l2 st2 r2 p2 => ?_
  cases e : view s2 i with
  | none => rw [e] at p2; exact p2.elim
  | some d =>
    rw [e] at p2
    obtain ⟨w, hw, vw⟩ := st2.view e
    obtain ⟨sv, e2, p3⟩ := p2.opt
    exact ⟨w, hw, ho B W2 s2 σ H2 E u w _ _ sv Q st2 r2 vw e2 p3⟩
theorem impV1 {r : V → Hp → VK → Prop} {op : D → Option SV} (ho : OpU K r op) {i : Nat} (q : TG (okV K) K B E (dV1 op i) σ H Q) : tUn r (tVar i) σ H Q := by
  obtain ⟨W, s, st, p⟩ := q
  unfold dV1 at p
  cases e : view s i with
  | none => rw [e] at p; exact p.elim
  | some d =>
    rw [e] at p
    obtain ⟨w, hw, vw⟩ := st.view e
    obtain ⟨sv, e2, p3⟩ := p.opt
    exact ⟨w, hw, ho B W s σ H E w _ sv Q st vw e2 p3⟩
end
/-- a slot holds something -/
def has (s : Sx) (i : Nat) : Bool := match s.ρ[i]? with
  | some (some _) => true
  | _ => false
theorem StOk.has {K : PySem.W.Frag} {B : Bs} {W : Wd} {s : Sx} {σ : L2.St} {H : Hp} (st : StOk K B W s σ H) {i : Nat} (e : DL.has s i = true) : ∃ v, σ[i]? = some (some v) := by
  unfold DL.has at e
  split at e
  · rename_i sv e1
    obtain ⟨v, h1, _⟩ := st.slots i _ e1
    exact ⟨v, h1⟩
  · cases e
/-- .. which is asked first -/
def dHas (i : Nat) (de : DE) : DE := fun s => if has s i = true then de s else .bad
theorem impHas {K : PySem.W.Frag} {B : Bs} {E : XK} {σ : L2.St} {H : Hp} {Q : VK} {i : Nat} {de : DE} (q : TG (okV K) K B E (dHas i de) σ H Q) : (∃ v, σ[i]? = some (some v)) ∧ TG (okV K) K B E de σ H Q := by
  obtain ⟨W, s, st, p⟩ := q
  unfold dHas at p
  split at p
  · rename_i h
    exact ⟨st.has h, W, s, st, p⟩
  · exact p.elim

/-! ### items -/
theorem ixN_none {n : Nat} {i : Int} (h : ixN n i = none) : True := trivial
/-- a dict by its keys and values -/
def kFind : List (List Int) → List D → List Int → Option D
  | k :: ks, d :: ds, x => if k = x then some d else kFind ks ds x
  | _, _, _ => none
def kSub : List (List Int) → List D → List Int → D → List D
  | k :: ks, d :: ds, x, e => (if k = x then e else d) :: kSub ks ds x e
  | _, _, _, _ => []
def kPut (ks : List (List Int)) (ds : List D) (x : List Int) (e : D) : List (List Int) × List D := if x ∈ ks then (ks, kSub ks ds x e) else (ks ++ [x], ds ++ [e])
theorem keyT_inj {a b : List Int} : (a.map Sum.inl : List Key) = b.map Sum.inl ↔ a = b := by
  constructor
  · intro h
    have := congrArg (List.map fun k : Key => match k with | .inl i => i | .inr _ => 0) h
    simpa [List.map_map, Function.comp_def] using this
  · rintro rfl; rfl
section
variable {K : PySem.W.Frag} {W : Wd}
theorem valV_find : ∀ {kvs : List (List Key × V)} {ks : List (List Int)} {ds : List D} {x : List Int}, kvs.map (·.1) = keyT ks → Reps K W (kvs.map (·.2)) ds →
    (∀ d, kFind ks ds x = some d → ∃ v, valV kvs (x.map Sum.inl) = some v ∧ Rep K W v d) ∧ (kFind ks ds x = none → valV kvs (x.map Sum.inl) = none)
  | [], ks, ds, x, h, r => by
    cases r
    cases ks with
    | nil => exact ⟨fun d e => (by simp [kFind] at e), fun _ => rfl⟩
    | cons k r => simp [keyT] at h
  | p :: kvs, ks, ds, x, h, r => by
    cases ks with
    | nil => simp [keyT] at h
    | cons k ks =>
      simp only [keyT, List.map_cons, List.cons.injEq] at h
      obtain ⟨h1, h2⟩ := h
      simp only [List.map_cons] at r
      cases r with
      | cons r1 r2 =>
        rename_i d ds
        have ih := valV_find (x := x) (show kvs.map (·.1) = keyT ks from h2) r2
        by_cases e : k = x
        · subst e
          refine ⟨fun d' e' => ?_, fun e' => ?_⟩
          · simp only [kFind, if_true, Option.some.injEq] at e'
            subst e'
            exact ⟨p.2, valV_pos h1, r1⟩
          · simp [kFind] at e'
        · have ne : ¬ p.1 = x.map Sum.inl := fun z => e (keyT_inj.mp (h1.symm.trans z))
          simp only [kFind, if_neg e]
          rw [valV_neg ne]
          exact ih
theorem any_keys {x : List Int} : ∀ {kvs : List (List Key × V)} {ks : List (List Int)}, kvs.map (·.1) = keyT ks → (kvs.any fun kv => decide (kv.1 = x.map Sum.inl)) = decide (x ∈ ks)
  | [], [], _ => by simp
  | [], _ :: _, h => by simp [keyT] at h
  | _ :: _, [], h => by simp [keyT] at h
  | p :: kvs, k :: ks, h => by
    simp only [keyT, List.map_cons, List.cons.injEq] at h
    rw [List.any_cons, any_keys (show kvs.map (·.1) = keyT ks from h.2), h.1]
    by_cases e : k = x
    · subst e; simp
    · have : ¬ (k.map Sum.inl : List Key) = x.map Sum.inl := fun z => e (keyT_inj.mp z)
      simp [this, Ne.symm e]
theorem kSub_ok {y : V} {d : D} {x : List Int} (ry : Rep K W y d) : ∀ {kvs : List (List Key × V)} {ks : List (List Int)} {ds : List D}, kvs.map (·.1) = keyT ks → Reps K W (kvs.map (·.2)) ds →
    (kvs.map fun kv => if kv.1 = (x.map Sum.inl : List Key) then (kv.1, y) else kv).map (·.1) = keyT ks ∧ Reps K W ((kvs.map fun kv => if kv.1 = (x.map Sum.inl : List Key) then (kv.1, y) else kv).map (·.2)) (kSub ks ds x d)
  | [], ks, ds, h, r => by
    cases r
    cases ks with
    | nil => exact ⟨rfl, .nil⟩
    | cons k r => simp [keyT] at h
  | p :: kvs, ks, ds, h, r => by
    cases ks with
    | nil => simp [keyT] at h
    | cons k ks =>
      simp only [keyT, List.map_cons, List.cons.injEq] at h
      obtain ⟨h1, h2⟩ := h
      have h2' : kvs.map (·.1) = keyT ks := h2
      simp only [List.map_cons] at r
      cases r with
      | cons r1 r2 =>
        rename_i d0 ds
        have ih := kSub_ok (x := x) ry h2' r2
        rw [List.map_cons, List.map_cons, List.map_cons]
        by_cases e : k = x
        · subst e
          rw [if_pos h1]
          refine ⟨?_, ?_⟩
          · rw [ih.1]; simp [keyT, h1]
          · simp only [kSub, if_true]; exact .cons ry ih.2
        · have ne : ¬ p.1 = x.map Sum.inl := fun z => e (keyT_inj.mp (h1.symm.trans z))
          rw [if_neg ne]
          refine ⟨?_, ?_⟩
          · rw [ih.1]; simp [keyT, h1]
          · simp only [kSub, if_neg e]; exact .cons r1 ih.2
/-- a store, by keys and values -/
theorem kPut_ok {y : V} {d : D} {x : List Int} (ry : Rep K W y d) {kvs : List (List Key × V)} {ks : List (List Int)} {ds : List D} (h : kvs.map (·.1) = keyT ks) (r : Reps K W (kvs.map (·.2)) ds) :
    (putK kvs (x.map Sum.inl) y).map (·.1) = keyT (kPut ks ds x d).1 ∧ Reps K W ((putK kvs (x.map Sum.inl) y).map (·.2)) (kPut ks ds x d).2 := by
  unfold putK kPut
  rw [any_keys h]
  by_cases e : x ∈ ks
  · simp only [decide_eq_true e, if_true, if_pos e]
    exact kSub_ok ry h r
  · simp only [decide_eq_false e, Bool.false_eq_true, if_false, if_neg e]
    refine ⟨?_, ?_⟩
    · rw [List.map_append, h]; simp [keyT]
    · rw [List.map_append]; exact r.append (.cons ry .nil)
end
theorem okS_sign {s : Str} {c : Nat} (h : okS s = true) (hc : c ∈ s.cps.toList) : okS ⟨#[c]⟩ = true := by
  have h1 : s.cps.all (· < 0x110000) = true := okS.str h
  rw [← Array.all_toList, List.all_eq_true] at h1
  have h2 := h1 c hc
  unfold okS
  have : PyData.strOk ⟨#[c]⟩ = true := by
    unfold PyData.strOk
    rw [← Array.all_toList, List.all_eq_true]
    intro x hx
    simp at hx
    subst hx
    exact h2
  rw [this, Bool.true_and]
  exact decide_eq_true (by show 1 ≤ lim; decide)
theorem Reps.atI {K : PySem.W.Frag} {W : Wd} {vs : List V} {ds : List D} {i : Int} {d : D} (r : Reps K W vs ds) (e : L2.atI ds i = some d) : ∃ v, L2.atI vs i = some v ∧ Rep K W v d := by
  unfold L2.atI at e ⊢
  rw [Reps.length r]
  cases h : ixN ds.length i with
  | none => rw [h] at e; cases e
  | some j =>
    rw [h] at e
    exact Reps.get r e
def oIx : D → D → Option SV
  | .lst ds, .int i => (L2.atI ds i).map .val
  | .tup ds, .int i => (L2.atI ds i).map .val
  | .scr ns, .int i => (L2.atI ns i).map fun z => .val (.int z)
  | .str s, .int i => (L2.atI s.cps.toList i).map fun c => .val (.str ⟨#[c]⟩)
  | .dct ks vs, .tup k => match allInts k with
    | some x => (kFind ks vs x).map .val
    | none => none
  | _, _ => none
abbrev rIxA (K : PySem.W.Frag) : R2 := fun x y H Q => rIx K x y H Q ∨ ∃ a v, x = .ref a ∧ DGet H a y (some v) ∧ Q v H
section
variable {X : Cx}
theorem ix_dict (hu : X.A.units + 1 < cLine) : IxR X (fun x y H Q => ∃ a v, x = .ref a ∧ DGet H a y (some v) ∧ Q v H) := by
  intro value slice pins s σ H x y v u Q I rx ry h hs
  obtain ⟨a, z, rfl, g, q⟩ := h
  cases rx
  exact tail_any (dict_typeIs I g) PySem.F.slot_dict_getitem.lookup (d_getItem hu I g ry fun w' s3 I3 rw' => ⟨z, H, I3, rw', q⟩) hs
theorem opr_ix (hu : X.A.units + 1 < cLine) : IxR X (rIxA X.K) := ix_seq.or (ix_dict hu)
end
section
variable {K : PySem.W.Frag}
theorem atI_mem {α : Type} {xs : List α} {i : Int} {v : α} (h : L2.atI xs i = some v) : v ∈ xs := by
  obtain ⟨j, _, h2, _⟩ := atI_get h
  exact List.mem_of_getElem? h2
theorem atI_map {α β : Type} (f : α → β) {xs : List α} {i : Int} {v : α} (h : L2.atI xs i = some v) : L2.atI (xs.map f) i = some (f v) := by
  unfold L2.atI at h ⊢
  rw [List.length_map]
  cases e : ixN xs.length i with
  | none => rw [e] at h; cases h
  | some j =>
    rw [e] at h
    have h' : xs[j]? = some v := h
    show (xs.map f)[j]? = some (f v)
    rw [List.getElem?_map, h']; rfl
theorem ov_ix : OpV K (rIxA K) oIx := by
  intro B W s σ H E x y dx dy sv Q st rx ry e p
  have goL : ∀ (a : Addr) (vs : List V) (ds : List D) (i : Int), H a = some (.lst vs) → Reps K W vs ds → (L2.atI ds i).map SV.val = some sv → rIxA K (.ref a) (.int i) H Q := fun a vs ds i h r e => by
    obtain ⟨d, e1, rfl⟩ := Option.map_eq_some_iff.mp e
    obtain ⟨v, h1, h2⟩ := Reps.atI r e1
    exact .inl (.inl ⟨a, vs, i, v, rfl, rfl, .of h, h1, p.one st h2⟩)
  have goD : ∀ (a : Addr) (kvs : List (List Key × V)) (ks : List (List Int)) (ds : List D) (b : Addr) (us : List V) (k : List D), H a = some (.dT kvs) → kvs.map (·.1) = keyT ks → Reps K W (kvs.map (·.2)) ds → W.F b = some (.tup us) → Reps K W us k →
      oIx (.dct ks ds) (.tup k) = some sv → rIxA K (.ref a) (.ref b) H Q := fun a kvs ks ds b us k h hk r hb rb e => by
    simp only [oIx] at e
    split at e
    · rename_i xk ek
      obtain ⟨d, e1, rfl⟩ := Option.map_eq_some_iff.mp e
      obtain ⟨v, h1, h2⟩ := (valV_find hk r).1 d e1
      have hb' : H b = some (.tup ((xk.map Sum.inl : List Key).map kV)) := by
        rw [st.sub _ _ hb, allInts_ok rb ek, List.map_map]; rfl
      exact .inr ⟨a, v, rfl, by rw [← h1]; exact DGet.t h hb', p.one st h2⟩
    · cases e
  cases rx with
  | own h r =>
    cases ry <;> try (exact nn e)
    exact goL _ _ _ _ h r e
  | ownD h hk r =>
    cases ry <;> try (exact nn e)
    rename_i b us k hb rb
    exact goD _ _ _ _ _ _ _ h hk r hb rb e
  | rep rx =>
    cases rx <;> cases ry <;> try (exact nn e)
    · rename_i z hz i
      have e' : (L2.atI z.cps.toList i).map (fun c => SV.val (.str ⟨#[c]⟩)) = some sv := e
      obtain ⟨c, e1, rfl⟩ := Option.map_eq_some_iff.mp e'
      exact .inl (.inr (.inr ⟨z, i, c, rfl, rfl, lim_line (okS.len hz), e1, p.one st (Rep.str _ (okS_sign hz (atI_mem e1)))⟩))
    · rename_i a vs ds h r i
      have e' : (L2.atI ds i).map SV.val = some sv := e
      obtain ⟨d, e1, rfl⟩ := Option.map_eq_some_iff.mp e'
      obtain ⟨v, h1, h2⟩ := Reps.atI r e1
      exact .inl (.inr (.inl ⟨a, vs, i, v, rfl, rfl, .of (st.sub _ _ h), h1, p.one st h2⟩))
    · rename_i a vs ds h r i
      exact goL _ _ _ _ (st.sub _ _ h) r e
    · rename_i a kvs ks ds h hk r b us k hb rb
      exact goD _ _ _ _ _ _ _ (st.sub _ _ h) hk r hb rb e
    · rename_i a ns h i
      have e' : (L2.atI ns i).map (fun z => SV.val (.int z)) = some sv := e
      obtain ⟨z, e1, rfl⟩ := Option.map_eq_some_iff.mp e'
      exact .inl (.inl ⟨a, _, i, _, rfl, rfl, Same.seq (K := K) (H := W.F) (H' := H) st.sub h, atI_map V.int e1, p.one st (Rep.int _)⟩)
end
section
variable {X : Cx} {E : XK} {a b : Expr} {da db : DE} {pos : Pos}
theorem snd_ix (hu : X.A.units + 1 < cLine) (ha : SndE X E a da) (hb : SndE X E b db) (hs : PlainIx b) : SndE X E (.Subscript a b pos) (d2 oIx da db) :=
  ⟨fun B => PE.imp (pe_ix (opr_ix hu) (ha.h B) (hb.h B) hs) fun _ _ _ q => imp2 ov_ix.op q⟩
theorem snd_ixV {i : Nat} (hu : X.A.units + 1 < cLine) (ha : PE X a (tVar i)) (hb : SndE X E b db) (hs : PlainIx b) : SndE X E (.Subscript a b pos) (dHas i (dV2 oIx i db)) :=
  ⟨fun B => PE.imp (pe_ix (opr_ix hu) ha (hb.h B) hs) fun _ _ _ q => impV2 ov_ix (impHas q).2 (impHas q).1⟩
end
end DL
/-! The data layer, part 7: comparisons of what is looked at, in, slices, len, isinstance, calls of built-ins. -/
namespace DL
open PySem PySem.Spec PyProof.Rows L2

section
variable {K : PySem.W.Frag} {W : Wd} {H : Hp}
theorem dp_vw (sub : ∀ a o, W.F a = some o → H a = some o) {v : V} {d : D} (h : Vw K W H v d) (hl : lvl d ≤ 60) : Dp K H v (toP d) ∧ (toP d).canLay0 = true ∧ (toP d).depth = lvl d := by
  cases h with
  | rep h => exact dp_of sub h hl
  | own h r =>
    simp only [lvl] at hl
    obtain ⟨q1, q2, q3⟩ := dps_of sub r (by omega)
    simp only [toP, lvl]
    exact ⟨.lst (.of h) q1, q2, by simp only [PyData.depth, q3]⟩
  | ownD _ _ _ => simp [lvl] at hl
end
section
variable {K : PySem.W.Frag}
theorem ov_eq : OpV K (rEqD K) oEq := by
  intro B W s σ H E x y dx dy sv Q st rx ry e p
  unfold oEq at e
  split at e
  · rename_i h
    cases e
    obtain ⟨p1, p2, p3⟩ := dp_vw st.sub rx h.1
    obtain ⟨q1, q2, q3⟩ := dp_of st.sub ry h.2
    exact ⟨_, _, p1, q1, shaped_of p2 p3 h.1, shaped_of q2 q3 h.2, p.one st (Rep.bl _)⟩
  · cases e
theorem ov_ne : OpV K (rNeD K) oNe := by
  intro B W s σ H E x y dx dy sv Q st rx ry e p
  unfold oNe at e
  split at e
  · rename_i h
    cases e
    obtain ⟨p1, p2, p3⟩ := dp_vw st.sub rx h.1
    obtain ⟨q1, q2, q3⟩ := dp_of st.sub ry h.2
    exact ⟨_, _, p1, q1, shaped_of p2 p3 h.1, shaped_of q2 q3 h.2, p.one st (Rep.bl _)⟩
  · cases e
end
/-! ### in, not in -/
def oIn (neg : Bool) : D → D → Option SV := fun x y => match y with
  | .lst ds => inSeq neg x ds
  | .tup ds => inSeq neg x ds
  | .str z => (match x with
    | .str y => (match y.cps.toList with
      | [c] => some (.val (.bl (if neg then !decide (c ∈ z.cps.toList) else decide (c ∈ z.cps.toList))))
      | _ => none)
    | _ => none)
  | .dct ks _ => (match x with
    | .tup k => (match allInts k with
      | some x => some (.val (.bl (if neg then !decide (x ∈ ks) else decide (x ∈ ks))))
      | none => none)
    | _ => none)
  | _ => none
abbrev rInA (K : PySem.W.Frag) (neg : Bool) : R2 := fun x y H Q => rInG K neg x y H Q ∨ (∃ (c : Nat) (z : Str), x = .str ⟨#[c]⟩ ∧ y = .str z ∧ Q (.bl (if neg then !decide (c ∈ z.cps.toList) else decide (c ∈ z.cps.toList))) H) ∨
  ∃ a o, y = .ref a ∧ DGet H a x o ∧ Q (.bl (if neg then !o.isSome else o.isSome)) H
section
variable {X : Cx}
theorem op_inDict (hu : X.A.units + 1 < cLine) : OpR X (compareOp .In) (fun x y H Q => ∃ a o, y = .ref a ∧ DGet H a x o ∧ Q (.bl o.isSome) H) := by
  intro pins s σ H x y v u Q I rx ry h
  obtain ⟨a, o, rfl, g, q⟩ := h
  cases ry
  exact d_in hu I g rx fun s3 I3 => ⟨.bl o.isSome, H, I3, rfl, q⟩
theorem op_notInDict (hu : X.A.units + 1 < cLine) : OpR X (compareOp .NotIn) (fun x y H Q => ∃ a o, y = .ref a ∧ DGet H a x o ∧ Q (.bl (!o.isSome)) H) := by
  intro pins s σ H x y v u Q I rx ry h
  obtain ⟨a, o, rfl, g, q⟩ := h
  cases ry
  exact d_notIn hu I g rx fun s3 I3 => ⟨.bl (!o.isSome), H, I3, rfl, q⟩
theorem opr_in (hu : X.A.units + 65 < cLine) : OpR X (compareOp .In) (rInA X.K false) := (op_inG hu).or (op_in_sign.or (op_inDict (by omega)))
theorem opr_notIn (hu : X.A.units + 65 < cLine) : OpR X (compareOp .NotIn) (rInA X.K true) := (op_notInG hu).or (op_notIn_sign.or (op_notInDict (by omega)))
end
section
variable {K : PySem.W.Frag} {W : Wd}
theorem kFind_isSome : ∀ {kvs : List (List Key × V)} {ks : List (List Int)} {x : List Int}, kvs.map (·.1) = keyT ks → (valV kvs (x.map Sum.inl)).isSome = decide (x ∈ ks) := fun {kvs ks x} h => by
  rw [← valV_any]; exact any_keys h
theorem ow_in {neg : Bool} : OpW K (rInA K neg) (oIn neg) := by
  intro B W s σ H E x y dx dy sv Q st rx ry e p
  have go : ∀ (ds : List D) (vs : List V), Reps K W vs ds → inSeq neg dx ds = some sv → (∀ z, DpAll K H vs z → Dp K H y (.list z) ∨ Dp K H y (.tuple z)) → rInA K neg x y H Q := fun ds vs r e i => by
    unfold inSeq at e
    split at e
    · rename_i h
      cases e
      obtain ⟨p1, p2, p3⟩ := dp_of st.sub rx h.1
      obtain ⟨q1, q2, q3⟩ := dps_of st.sub r (by omega)
      refine .inl ⟨_, _, p1, i _ q1, shaped_of p2 p3 h.1, q2, ?_⟩
      rw [any_toPs]
      exact p.one st (Rep.bl _)
    · cases e
  have goD : ∀ (a : Addr) (kvs : List (List Key × V)) (ks : List (List Int)) (ds : List D), y = .ref a → H a = some (.dT kvs) → kvs.map (·.1) = keyT ks → oIn neg dx (.dct ks ds) = some sv → rInA K neg x y H Q := fun a kvs ks ds ey h hk e => by
    subst ey
    cases rx with
    | @tup b us k hb rb => ?_
    | _ => exact nn e
    simp only [oIn] at e
    split at e
    · rename_i xk ek
      cases e
      have hb' : H b = some (.tup ((xk.map Sum.inl : List Key).map kV)) := by
        rw [st.sub _ _ hb, allInts_ok rb ek, List.map_map]; rfl
      refine .inr (.inr ⟨a, valV kvs (xk.map Sum.inl), rfl, DGet.t h hb', ?_⟩)
      rw [kFind_isSome hk]
      exact p.one st (Rep.bl _)
    · cases e
  cases ry with
  | own h r => exact go _ _ r e fun z hz => .inl (.lst (.of h) hz)
  | ownD h hk r => exact goD _ _ _ _ rfl h hk e
  | rep ry =>
    cases ry <;> try (exact nn e)
    · rename_i z hz
      cases rx <;> try (exact nn e)
      rename_i y hy
      simp only [oIn] at e
      split at e
      · rename_i c ec
        cases e
        have ey : y = ⟨#[c]⟩ := by
          obtain ⟨⟨l⟩⟩ := y
          have : l = [c] := ec
          rw [this]
        exact .inr (.inl ⟨c, z, by rw [ey], rfl, p.one st (Rep.bl _)⟩)
      · cases e
    · rename_i a vs ds h r
      exact go ds vs r e fun z hz => .inr (.tup (.of (st.sub _ _ h)) hz)
    · rename_i a vs ds h r
      exact go ds vs r e fun z hz => .inl (.lst (.of (st.sub _ _ h)) hz)
    · rename_i a kvs ks ds h hk r
      exact goD _ _ _ _ rfl (st.sub _ _ h) hk e
end
section
variable {X : Cx} {E : XK} {a b : Expr} {da db : DE} {pos : Pos} {i : Nat}
theorem snd_cmpV {op : CmpOp} {r : R2} {o : D → D → Option SV} (h : OpR X (compareOp op) r) (ho : OpV X.K r o) (ha : PE X a (tVar i)) (hb : SndE X E b db) (hm : behindInMarks op b = false) : SndE X E (.Compare a [op] [b] pos) (dHas i (dV2 o i db)) :=
  ⟨fun B => PE.imp (pe_cmpR h ha (hb.h B) hm) fun _ _ _ q => impV2 ho (impHas q).2 (impHas q).1⟩
theorem snt_cmpV {op : CmpOp} {r : R2} {o : D → D → Option SV} (h : OpR X (compareOp op) r) (ho : OpV X.K r o) (ha : PE X a (tVar i)) (hb : SndE X E b db) (hm : behindInMarks op b = false) : SndT X E (.Compare a [op] [b] pos) (dTest (dHas i (dV2 o i db))) :=
  ⟨fun B => PT.imp (pt_cmpR h ha (hb.h B) hm) fun _ _ _ q => impV2 ho (impHas (impT q)).2 (impHas (impT q)).1⟩
theorem snd_cmpW {op : CmpOp} {r : R2} {o : D → D → Option SV} (h : OpR X (compareOp op) r) (ho : OpW X.K r o) (ha : SndE X E a da) (hb : PE X b (tVar i)) (hm : behindInMarks op b = false) : SndE X E (.Compare a [op] [b] pos) (dW2 o da i) :=
  ⟨fun B => PE.imp (pe_cmpR h (ha.h B) hb hm) fun _ _ _ q => impW2 ho q⟩
theorem snt_cmpW {op : CmpOp} {r : R2} {o : D → D → Option SV} (h : OpR X (compareOp op) r) (ho : OpW X.K r o) (ha : SndE X E a da) (hb : PE X b (tVar i)) (hm : behindInMarks op b = false) : SndT X E (.Compare a [op] [b] pos) (dTest (dW2 o da i)) :=
  ⟨fun B => PT.imp (pt_cmpR h (ha.h B) hb hm) fun _ _ _ q => impW2 ho (impT q)⟩
end

/-! ### calls of built-ins by their names -/
section
variable {X : Cx} {E : XK} {id T : String} {r : List V → Hp → VK → Prop} {o : List D → Option SV} {x : Str} {p pos : Pos} {e : Expr} {es : List Expr} {da : DA}
theorem snd_callB (hc : CallR X (.builtin id) r) (ho : OpN X.K r o) (hg : Gl X x) (hm : X.mg x = none) (hv : bootBuiltins x = some (.builtin id)) (ha : SndA X E (e :: es) da) (hn : x ≠ "__name__" := by decide) (hdb : (x == ("__debug__" : Str)) = false := by decide)
    (he : starEach (e :: es) X.env = (false, eval e X.env) :: starEach es X.env := by rfl) (hpl : (backTo pos (starEach es X.env)).any (·.1) = false := by rfl) : SndE X E (.Call (.Name x p) (e :: es) [] pos) (dN o da) :=
  ⟨fun B => PE.imp (pe_callB hc hg hm hv (ha.h B) hn hdb he hpl) fun _ _ _ q => impN ho q⟩
theorem snd_callTy (hc : CallR X (.type T) r) (ho : OpN X.K r o) (hg : Gl X x) (hm : X.mg x = none) (hv : bootBuiltins x = some (.type T)) (ha : SndA X E (e :: es) da) (hn : x ≠ "__name__" := by decide) (hdb : (x == ("__debug__" : Str)) = false := by decide)
    (he : starEach (e :: es) X.env = (false, eval e X.env) :: starEach es X.env := by rfl) (hpl : (backTo pos (starEach es X.env)).any (·.1) = false := by rfl) : SndE X E (.Call (.Name x p) (e :: es) [] pos) (dN o da) :=
  ⟨fun B => PE.imp (pe_callTy hc hg hm hv (ha.h B) hn hdb he hpl) fun _ _ _ q => impN ho q⟩
/-- .. of a slot that is looked at -/
theorem impVC {K : PySem.W.Frag} {B : Bs} {E : XK} {σ : L2.St} {H : Hp} {Q : VK} {op : D → Option SV} {i : Nat} (ho : OpU K (fun x H Q => r [x] H Q) op) (q : TG (okV K) K B E (dV1 op i) σ H Q) : tCB r (tCons (tVar i) tNil) σ H Q := impV1 ho q
theorem snd_callBV {i : Nat} {op : D → Option SV} (hc : CallR X (.builtin id) r) (ho : OpU X.K (fun x H Q => r [x] H Q) op) (hg : Gl X x) (hm : X.mg x = none) (hv : bootBuiltins x = some (.builtin id)) (ha : PE X e (tVar i)) (hn : x ≠ "__name__" := by decide) (hdb : (x == ("__debug__" : Str)) = false := by decide)
    (he : starEach [e] X.env = (false, eval e X.env) :: starEach [] X.env := by rfl) (hpl : (backTo pos (starEach [] X.env)).any (·.1) = false := by rfl) : SndE X E (.Call (.Name x p) [e] [] pos) (dV1 op i) :=
  ⟨fun B => PE.imp (pe_callB hc hg hm hv (pa_cons ha pa_nil he) hn hdb he hpl) fun _ _ _ q => impVC ho q⟩
theorem snd_callTyV {i : Nat} {op : D → Option SV} (hc : CallR X (.type T) r) (ho : OpU X.K (fun x H Q => r [x] H Q) op) (hg : Gl X x) (hm : X.mg x = none) (hv : bootBuiltins x = some (.type T)) (ha : PE X e (tVar i)) (hn : x ≠ "__name__" := by decide) (hdb : (x == ("__debug__" : Str)) = false := by decide)
    (he : starEach [e] X.env = (false, eval e X.env) :: starEach [] X.env := by rfl) (hpl : (backTo pos (starEach [] X.env)).any (·.1) = false := by rfl) : SndE X E (.Call (.Name x p) [e] [] pos) (dV1 op i) :=
  ⟨fun B => PE.imp (pe_callTy hc hg hm hv (pa_cons ha pa_nil he) hn hdb he hpl) fun _ _ _ q => impVC ho q⟩
end
/-- one argument -/
def on1 (op : D → Option SV) : List D → Option SV
  | [d] => op d
  | _ => none
def on2 (op : D → D → Option SV) : List D → Option SV
  | [d, e] => op d e
  | _ => none
theorem OpU.n {K : PySem.W.Frag} {r : List V → Hp → VK → Prop} {op : D → Option SV} (h : OpU K (fun x H Q => r [x] H Q) op) : OpN K r (on1 op) := by
  intro B W s σ H E xs ds sv Q st rx e p
  cases rx with
  | nil => exact nn e
  | cons r1 rr =>
    cases rr with
    | nil => exact h B W s σ H E _ _ sv Q st (.rep r1) e p
    | cons _ _ => exact nn e
theorem Op2.n {K : PySem.W.Frag} {r : List V → Hp → VK → Prop} {op : D → D → Option SV} (h : Op2 K (fun x y H Q => r [x, y] H Q) op) : OpN K r (on2 op) := by
  intro B W s σ H E xs ds sv Q st rx e p
  cases rx with
  | nil => exact nn e
  | cons r1 rr =>
    cases rr with
    | nil => exact nn e
    | cons r2 rr =>
      cases rr with
      | nil => exact h B W s σ H E _ _ _ _ sv Q st r1 r2 e p
      | cons _ _ => exact nn e
/-! len -/
def oLen : D → Option SV
  | .lst ds => some (.val (.int ds.length))
  | .tup ds => some (.val (.int ds.length))
  | .scr ns => some (.val (.int ns.length))
  | .str s => some (.val (.int s.length))
  | .dct ks _ => some (.val (.int ks.length))
  | _ => none
abbrev rLenA (K : PySem.W.Frag) : List V → Hp → VK → Prop := fun xs H Q => (∃ x n, xs = [x] ∧ LenV K x H n ∧ Q (.int n) H) ∨ rLenT xs H Q
section
variable {X : Cx}
theorem cr_len : CallR X (.builtin "len") (rLenA X.K) := call_len.or call_len_dT
end
section
variable {K : PySem.W.Frag}
theorem ou_len : OpU K (fun x H Q => rLenA K [x] H Q) oLen := by
  intro B W s σ H E x dx sv Q st rx e p
  have goD : ∀ (a : Addr) (kvs : List (List Key × V)) (ks : List (List Int)), H a = some (.dT kvs) → kvs.map (·.1) = keyT ks → some (SV.val (.int ks.length)) = some sv → rLenA K [.ref a] H Q := fun a kvs ks h hk e => by
    cases e
    have hl : kvs.length = ks.length := by have := congrArg List.length hk; simpa [keyT] using this
    refine .inr ⟨a, kvs, rfl, h, ?_⟩
    rw [hl]; exact p.one st (Rep.int _)
  have goL : ∀ (a : Addr) (vs : List V) (ds : List D), H a = some (.lst vs) → Reps K W vs ds → some (SV.val (.int ds.length)) = some sv → rLenA K [.ref a] H Q := fun a vs ds h r e => by
    cases e
    refine .inl ⟨_, vs.length, rfl, .inl ⟨vs, .of h, rfl⟩, ?_⟩
    rw [Reps.length r]; exact p.one st (Rep.int _)
  cases rx with
  | own h r => exact goL _ _ _ h r e
  | ownD h hk r => exact goD _ _ _ h hk e
  | rep rx =>
    cases rx <;> try (exact nn e)
    · rename_i z hz
      cases e
      exact .inl ⟨_, z.length, rfl, ⟨lim_line (okS.len hz), rfl⟩, p.one st (Rep.int _)⟩
    · rename_i a vs ds h r
      cases e
      refine .inl ⟨_, vs.length, rfl, .inr ⟨vs, .of (st.sub _ _ h), rfl⟩, ?_⟩
      rw [Reps.length r]; exact p.one st (Rep.int _)
    · rename_i a vs ds h r
      exact goL _ _ _ (st.sub _ _ h) r e
    · rename_i a kvs ks ds h hk r
      exact goD _ _ _ (st.sub _ _ h) hk e
    · rename_i a ns h
      cases e
      refine .inl ⟨_, (ns.map V.int).length, rfl, .inl ⟨_, Same.seq (K := K) (H := W.F) (H' := H) st.sub h, rfl⟩, ?_⟩
      rw [List.length_map]; exact p.one st (Rep.int _)
end
/-! isinstance(x, T), T a built-in type -/
def tyD : D → Option String
  | .non => some "NoneType"
  | .bl _ => some "bool"
  | .int _ => some "int"
  | .str _ => some "str"
  | .tup _ => some "tuple"
  | .lst _ => some "list"
  | .scr _ => some "list"
  | .dct _ _ => some "dict"
  | _ => none
def oIsi (T : String) (d : D) : Option SV := match tyD d with
  | some t => (kitB t T).map fun b => .val (.bl b)
  | none => none
def dIsi (T : String) (a : DE) : DE := d1 (oIsi T) a
section
variable {K : PySem.W.Frag}
theorem tyD_ok {W : Wd} {H : Hp} (sub : ∀ a o, W.F a = some o → H a = some o) {v : V} {d : D} {t : String} (r : Rep K W v d) (e : tyD d = some t) : TyX K H v (.type t) := by
  cases r <;> first | exact nn e | (cases e; skip)
  · exact .base .non
  · exact .base (.bl _)
  · exact .base (.int _)
  · exact .base (.str _)
  · exact .base (.tup (sub _ _ (by assumption)))
  · exact .base (.lst (sub _ _ (by assumption)))
  · exact .base (.dT (sub _ _ (by assumption)))
  · rename_i a ns h
    have h' : SqL K H a (ns.map V.int) := Same.seq (K := K) (H := W.F) (H' := H) sub h
    rcases h' with (h' | ⟨o, h'⟩) | ⟨o, its, n, h1, h2, _⟩
    · exact .base (.lst h')
    · exact .base (.frz h')
    · exact .kList h1 h2
theorem impIsi {T : String} {B : Bs} {E : XK} {σ : L2.St} {H : Hp} {Q : VK} {a : DE} (q : TG (okV K) K B E (dIsi T a) σ H Q) : tCB (rIsi K) (tCons (TG (okV K) K B E a) (tCons (tC (.ty T)) tNil)) σ H Q := by
  obtain ⟨W, s, st, p⟩ := q
  refine Pst.seqD st p fun v H1 W1 s1 x l st1 r1 p1 => ?_
  obtain ⟨sv, e, p3⟩ := p1.opt
  unfold oIsi at e
  split at e
  · rename_i t et
    obtain ⟨b, eb, rfl⟩ := Option.map_eq_some_iff.mp e
    exact ⟨v, .ty T, .type t, .type T, b, rfl, .ty T, tyD_ok st1.sub r1 et, kit_ty eb, p3.one st1 (Rep.bl _)⟩
  · cases e
end
section
variable {X : Cx} {E : XK} {a b : Expr} {da db : DE} {pos p p2 : Pos} {T : Str}
theorem snd_isi {n : String} (hg : Gl X "isinstance") (hm : X.mg "isinstance" = none) (hgT : Gl X T) (hmT : X.mg T = none) (hvT : bootBuiltins T = some (.type n)) (ha : SndE X E a da) (hn : T ≠ "__name__" := by decide) (hd : (T == ("__debug__" : Str)) = false := by decide)
    (he : starEach [a, .Name T p2] X.env = (false, eval a X.env) :: starEach [.Name T p2] X.env := by rfl) (he2 : starEach [.Name T p2] X.env = (false, eval (.Name T p2) X.env) :: starEach [] X.env := by rfl)
    (hpl : (backTo pos (starEach [.Name T p2] X.env)).any (·.1) = false := by rfl) : SndE X E (.Call (.Name "isinstance" p) [a, .Name T p2] [] pos) (dIsi n da) :=
  ⟨fun B => PE.imp (pe_callB call_isi hg hm (by decide +kernel) (pa_cons (ha.h B) (pa_cons (pe_bltn (v := .ty n) hgT hmT hvT rfl hn hd) pa_nil he2) he) (by decide) (by decide) he hpl) fun _ _ _ q => impIsi q⟩
end
/-! ### slices -/
def cutD {α : Type} (xs : List α) (lo hi : Option Int) : List α := (xs.drop (HT.sIx xs.length 0 lo)).take (HT.sIx xs.length xs.length hi - HT.sIx xs.length 0 lo)
abbrev DP := Sx → R (Option Int)
def okP (W : Wd) (H : Hp) (a b : Option Int) : Prop := a = b
structure SndP (X : Cx) (E : XK) (e : Option Expr) (dp : DP) : Prop where
  h : ∀ B, PO X e (TG okP X.K B E dp)
def pNo : DP := fun s => .ok none s
def pAt (a : DE) : DP := fun s => (a s).bind fun x s1 => match x with
  | .val (.int i) => .ok (some i) s1
  | _ => .bad
def oSl (lo hi : Option Int) : D → Option SV
  | .lst ds => some (.own (cutD ds lo hi))
  | .tup ds => some (.val (.tup (cutD ds lo hi)))
  | .str s => some (.val (.str (cutS s lo hi)))
  | _ => none
def dSl (a : DE) (lo hi : DP) : DE := fun s => (a s).bind fun x s1 => (lo s1).bind fun l s2 => (hi s2).bind fun u s3 => R.opt (oSl l u (frz x)) s3
def dSlV (i : Nat) (lo hi : DP) : DE := fun s => (lo s).bind fun l s2 => (hi s2).bind fun u s3 => match view s3 i with
  | some d => R.opt (oSl l u d) s3
  | none => .bad
theorem PO.imp {X : Cx} {e : Option Expr} {t t' : TO} (h : PO X e t) (i : ∀ σ H Q, t' σ H Q → t σ H Q) : PO X e t' := ⟨fun pins s σ H Q I q => h.run pins s σ H Q I (i σ H Q q)⟩
abbrev rSlD (K : PySem.W.Frag) : V → Option Int → Option Int → Hp → VK → Prop := fun x lo hi H Q => rSlL K x lo hi H Q ∨ rSlA K x lo hi H Q ∨ rSlS x lo hi H Q
section
variable {X : Cx}
theorem sl_any : SlR X (rSlD X.K) := sl_list.or (sl_tupA.or sl_str)
end
theorem cutD_full {α : Type} {xs : List α} {lo hi : Option Int} (h : HT.sIx xs.length 0 lo = 0 ∧ HT.sIx xs.length xs.length hi = xs.length) : cutD xs lo hi = xs := by
  unfold cutD
  rw [h.1, h.2, List.drop_zero, Nat.sub_zero, List.take_length]
theorem okS_cut {s : Str} {lo hi : Option Int} (h : okS s = true) : okS (cutS s lo hi) = true := by
  have h1 : s.cps.all (· < 0x110000) = true := okS.str h
  rw [← Array.all_toList, List.all_eq_true] at h1
  unfold okS
  have : PyData.strOk (cutS s lo hi) = true := by
    unfold PyData.strOk
    rw [← Array.all_toList, List.all_eq_true]
    intro x hx
    refine h1 x ?_
    unfold cutS at hx
    exact List.mem_of_mem_drop (List.mem_of_mem_take hx)
  rw [this, Bool.true_and]
  exact decide_eq_true (Nat.le_trans (cutS_length s lo hi) (okS.len h))
section
variable {K : PySem.W.Frag}
theorem cut_reps {W : Wd} {vs : List V} {ds : List D} {lo hi : Option Int} (r : Reps K W vs ds) : Reps K W (cutV vs lo hi) (cutD ds lo hi) := by
  unfold cutV cutD
  rw [Reps.length r]
  exact (r.drop _).take _
theorem ou_sl {lo hi : Option Int} : OpU K (fun x H Q => rSlD K x lo hi H Q) (oSl lo hi) := by
  intro B W s σ H E x dx sv Q st rx e p
  have goL : ∀ (a : Addr) (vs : List V) (ds : List D), H a = some (.lst vs) → Reps K W vs ds → some (SV.own (cutD ds lo hi)) = some sv → rSlD K (.ref a) lo hi H Q := fun a vs ds h r e => by
    cases e
    exact .inl ⟨a, vs, rfl, .of h, fun q hq => p.newLst st (cut_reps r) q hq⟩
  cases rx with
  | own h r => exact goL _ _ _ h r e
  | ownD h hk r => exact nn e
  | rep rx =>
    cases rx <;> try (exact nn e)
    · rename_i z hz
      cases e
      exact .inr (.inr ⟨z, rfl, lim_line (okS.len hz), p.one st (Rep.str _ (okS_cut hz))⟩)
    · rename_i a vs ds h r
      cases e
      refine .inr (.inl ⟨a, vs, rfl, .of (st.sub _ _ h), fun hw => ?_, fun hw q hq => p.newTup st (cut_reps r) q hq⟩)
      rw [Reps.length r] at hw
      rw [cutD_full hw] at p
      exact p.one st (Rep.tup h r)
    · rename_i a vs ds h r
      exact goL _ _ _ (st.sub _ _ h) r e
end
section
variable {X : Cx} {E : XK} {a : Expr} {da : DE} {lo hi : Option Expr} {dl dh : DP} {pos p2 : Pos} {i : Nat}
theorem snp_no : SndP X E none pNo := ⟨fun B => PO.imp po_none fun σ H Q q => by
  obtain ⟨W, s, st, p⟩ := q
  exact p none H W (Wd.Le.refl W) st rfl⟩
theorem snp_at {e : Expr} {de : DE} (h : SndE X E e de) : SndP X E (some e) (pAt de) := ⟨fun B => PO.imp (po_some (h.h B)) fun σ H Q q => by
  obtain ⟨W, s, st, p⟩ := q
  refine Pst.seq st p fun v H1 W1 s1 x l st1 r1 p1 => ?_
  cases x with
  | val d =>
    cases d with
    | int z =>
      cases r1
      exact ⟨z, rfl, p1 (some z) H1 W1 (Wd.Le.refl W1) st1 rfl⟩
    | _ => exact p1.elim
  | _ => exact p1.elim⟩
theorem snd_sl (ha : SndE X E a da) (hl : SndP X E lo dl) (hh : SndP X E hi dh) : SndE X E (.Subscript a (.Slice lo hi none p2) pos) (dSl da dl dh) := by
  refine ⟨fun B => PE.imp (pe_slice sl_any (ha.h B) (hl.h B) (hh.h B)) fun σ H Q q => ?_⟩
  obtain ⟨W, s, st, p⟩ := q
  refine Pst.seqD st p fun v H1 W1 s1 x l st1 r1 p1 => Pst.seq (ok := okP) st1 p1 fun z H2 W2 s2 z' l2 st2 r2 p2 => Pst.seq (ok := okP) st2 p2 fun u H3 W3 s3 u' l3 st3 r3 p3 => ?_
  have e2 : z' = z := r2
  have e3 : u' = u := r3
  subst e2 e3
  obtain ⟨sv, e, p4⟩ := p3.opt
  exact ou_sl B W3 s3 σ H3 E v _ sv Q st3 (.rep ((r1.mono l2).mono l3)) e p4
theorem snd_slV (ha : PE X a (tVar i)) (hl : SndP X E lo dl) (hh : SndP X E hi dh) : SndE X E (.Subscript a (.Slice lo hi none p2) pos) (dHas i (dSlV i dl dh)) := by
  refine ⟨fun B => PE.imp (pe_slice sl_any ha (hl.h B) (hh.h B)) fun σ H Q q => ?_⟩
  obtain ⟨⟨v, hv⟩, W, s, st, p⟩ := impHas q
  refine ⟨v, hv, Pst.seq (ok := okP) st p fun z H2 W2 s2 z' l2 st2 r2 p2 => Pst.seq (ok := okP) st2 p2 fun u H3 W3 s3 u' l3 st3 r3 p3 => ?_⟩
  have e2 : z' = z := r2
  have e3 : u' = u := r3
  subst e2 e3
  cases e : view s3 i with
  | none => rw [e] at p3; exact p3.elim
  | some d =>
    rw [e] at p3
    obtain ⟨w, hw, vw⟩ := st3.view e
    rw [hv] at hw; cases hw
    obtain ⟨sv, e2, p4⟩ := p3.opt
    exact ou_sl B W3 s3 σ H3 E v _ sv Q st3 vw e2 p4
end
end DL
/-! The data layer, part 8: statements, targets, loops. -/
namespace DL
open PySem PySem.Spec PyProof.Rows L2

def PstS (K : PySem.W.Frag) (B : Bs) (W : Wd) (E : XK) (r : R Fl) (D : Ends) : Prop := match r with
  | .ok .nx s => ∀ σ H W', W.Le W' → StOk K B W' s σ H → D.nx σ H
  | .ok (.rt sv) s => ∀ v H W', W.Le W' → StOk K B W' ⟨[], s.M⟩ [] H → SvOk K W' H .res 0 sv v → D.rt v H
  | .ok .bk s => ∀ σ H W', W.Le W' → StOk K B W' s σ H → D.bk σ H
  | .ok .ct s => ∀ σ H W', W.Le W' → StOk K B W' s σ H → D.ct σ H
  | .exc C M => PX K B W E C M
  | .bad => False
def TS' (K : PySem.W.Frag) (B : Bs) (E : XK) (ds : DS) : TS := fun D σ H => ∃ W s, StOk K B W s σ H ∧ PstS K B W E (ds s) D
structure SndS (X : Cx) (E : XK) (st : Stmt) (ds : DS) : Prop where
  h : ∀ B, PS X st (TS' X.K B E ds)
structure SndB (X : Cx) (E : XK) (st : List Stmt) (ds : DS) : Prop where
  h : ∀ B, PSs X st (TS' X.K B E ds)
section
variable {K : PySem.W.Frag} {B : Bs} {W W' : Wd} {E : XK} {σ : L2.St} {H : Hp} {s : Sx}
theorem PstS.mono {r : R Fl} {D : Ends} (l : W.Le W') (h : PstS K B W E r D) : PstS K B W' E r D := by
  cases r with
  | ok f s =>
    cases f with
    | nx => exact fun σ H V lv => h σ H V (l.trans lv)
    | rt sv => exact fun v H V lv => h v H V (l.trans lv)
    | bk => exact fun σ H V lv => h σ H V (l.trans lv)
    | ct => exact fun σ H V lv => h σ H V (l.trans lv)
  | exc C M => exact fun H' V lv => h H' V (l.trans lv)
  | bad => exact h
/-- an expression ahead of what follows -/
theorem PstS.seq {α β : Type} {ok : Wd → Hp → α → β → Prop} {a : Sx → R α} {k : α → Sx → R Fl} {D : Ends} {Q1 : β → Hp → Prop}
    (st : StOk K B W s σ H) (p : PstS K B W E ((a s).bind k) D) (n : ∀ b H1 W1 s1 x, W.Le W1 → StOk K B W1 s1 σ H1 → ok W1 H1 x b → PstS K B W1 E (k x s1) D → Q1 b H1) : TG ok K B E a σ H Q1 := by
  refine ⟨W, s, st, ?_⟩
  cases e : a s with
  | ok x s1 =>
    rw [e] at p
    exact fun b H1 W1 l st1 o => n b H1 W1 s1 x l st1 o (PstS.mono l p)
  | exc C M => rw [e] at p; exact p
  | bad => rw [e] at p; exact p
theorem PstS.seqD {a : DE} {k : SV → Sx → R Fl} {D : Ends} {Q1 : VK}
    (st : StOk K B W s σ H) (p : PstS K B W E ((a s).bind k) D) (n : ∀ v H1 W1 s1 x, W.Le W1 → StOk K B W1 s1 σ H1 → Rep K W1 v (frz x) → PstS K B W1 E (k x s1) D → Q1 v H1) : TG (okV K) K B E a σ H Q1 :=
  PstS.seq st p fun b H1 W1 s1 x l st o p => by
    obtain ⟨W2, l2, st2, r⟩ := st.freeze (r := .res) (fun z => by exact z) o
    exact n b H1 W2 s1 x (l.trans l2) st2 r (PstS.mono l2 p)
theorem PstS.next {D : Ends} (p : PstS K B W E (.ok .nx s) D) (st : StOk K B W s σ H) : D.nx σ H := p σ H W (Wd.Le.refl W) st
end

/-! ### blocks -/
def dSkip : DS := fun s => .ok .nx s
def dSeq (a b : DS) : DS := fun s => (a s).bind fun f s1 => match f with
  | .nx => b s1
  | f => .ok f s1
def dExpr (a : DE) : DS := fun s => (a s).bind fun _ s1 => .ok .nx s1
def dRet (a : DE) : DS := fun s => (a s).bind fun x s1 => .ok (.rt x) s1
def dIfS (t : DT) (a b : DS) : DS := fun s => (t s).bind fun c s1 => if c = true then a s1 else b s1
/-- a returned name: what it owns is given away -/
def dTake (i : Nat) : DE := fun s => match s.ρ[i]? with
  | some (some (.val d)) => .ok (.val d) s
  | some (some sv) => .ok sv ⟨s.ρ.set i none, s.M⟩
  | _ => .bad
section
variable {X : Cx} {E : XK} {st : Stmt} {rest : List Stmt} {a b : DS} {e : Expr} {de : DE} {pos : Pos}
theorem snb_nil : SndB X E [] dSkip := ⟨fun B => PSs.imp pss_nil fun D σ H q => by
  obtain ⟨W, s, st, p⟩ := q
  exact p.next st⟩
theorem snb_cons (h1 : SndS X E st a) (h2 : SndB X E rest b) : SndB X E (st :: rest) (dSeq a b) := by
  refine ⟨fun B => PSs.imp (pss_cons (h1.h B) (h2.h B)) fun D σ H q => ?_⟩
  obtain ⟨W, s, st, p⟩ := q
  refine ⟨W, s, st, ?_⟩
  unfold dSeq at p
  cases e : a s with
  | ok f s1 =>
    rw [e] at p
    cases f with
    | nx => exact fun σ H V l st1 => ⟨V, s1, st1, PstS.mono l p⟩
    | rt sv => exact p
    | bk => exact p
    | ct => exact p
  | exc C M => rw [e] at p; exact p
  | bad => rw [e] at p; exact p
theorem snb_one (h1 : SndS X E st a) : SndB X E [st] a := ⟨fun B => pss_one (h1.h B)⟩
theorem sns_pass : SndS X E (.Pass pos) dSkip := ⟨fun B => PS.imp ps_pass fun D σ H q => by
  obtain ⟨W, s, st, p⟩ := q
  exact p.next st⟩
theorem sns_expr (he : SndE X E e de) (hs : swapsWith e none pos.line X.env = pure false := by rfl) : SndS X E (.Expr e pos) (dExpr de) := by
  refine ⟨fun B => PS.imp (ps_expr (he.h B) hs) fun D σ H q => ?_⟩
  obtain ⟨W, s, st, p⟩ := q
  exact PstS.seq (ok := okV X.K) st p fun v H1 W1 s1 x l st1 r1 p1 => p1.next st1
theorem sns_ret (he : SndE X E e de) : SndS X E (.Return (some e) pos) (dRet de) := by
  refine ⟨fun B => PS.imp (ps_ret (he.h B)) fun D σ H q => ?_⟩
  obtain ⟨W, s, st, p⟩ := q
  exact PstS.seq (ok := okV X.K) st p fun v H1 W1 s1 x l st1 r1 p1 => p1 v H1 W1 (Wd.Le.refl W1) st1.bare r1
theorem sns_if {c : Expr} {x y : List Stmt} {t : DT} (hc : SndT X E c t) (ha : SndB X E x a) (hb : SndB X E y b) : SndS X E (.If c x y pos) (dIfS t a b) := by
  refine ⟨fun B => PS.imp (ps_if (hc.h B) (ha.h B) (hb.h B)) fun D σ H q => ?_⟩
  obtain ⟨W, s, st, p⟩ := q
  refine PstS.seq (ok := okB) st p fun k H1 W1 s1 x l st1 r1 p1 => ?_
  have e1 : x = k := r1
  subst e1
  cases x with
  | true => exact ⟨W1, s1, st1, p1⟩
  | false => exact ⟨W1, s1, st1, p1⟩
theorem snd_take {e : Expr} {i : Nat} (h : PE X e (tVar i)) : SndE X E e (dTake i) := by
  refine ⟨fun B => PE.imp h fun σ H Q q => ?_⟩
  obtain ⟨W, s, st, p⟩ := q
  unfold dTake at p
  have go : ∀ sv, isOwn sv = true → s.ρ[i]? = some (some sv) → Pst (okV X.K) X.K B W E σ (.ok sv ⟨s.ρ.set i none, s.M⟩) Q → tVar i σ H Q := fun sv ow e p => by
    obtain ⟨v, e1, hv⟩ := st.slots i sv e
    have g := st.forget i
    have hl : ∃ a, v = .ref a ∧ W.lab a = some (.slot i, 0) ∧ ∀ l, SvOk X.K { W with lab := updl l a (some (.res, 0)) } H .res 0 sv v := by
      cases sv with
      | val d => cases ow
      | own ds =>
        obtain ⟨a, vs, rfl, h1, h2, h3⟩ := hv
        exact ⟨a, rfl, h1, fun l => ⟨a, vs, rfl, updl_same, h2, h3.mono (Wd.Le.lab W _)⟩⟩
      | ownD ks ds =>
        obtain ⟨a, kvs, rfl, h1, h2, h3, h4⟩ := hv
        exact ⟨a, rfl, h1, fun l => ⟨a, kvs, rfl, updl_same, h2, h3, h4.mono (Wd.Le.lab W _)⟩⟩
    obtain ⟨a, rfl, h1, h2⟩ := hl
    obtain ⟨l, g2⟩ := g.relabel h1 (fun z => (live_forget z).2 rfl) (.res, 0)
    exact ⟨_, e1, p _ H _ l g2 (h2 W.lab)⟩
  cases e : s.ρ[i]? with
  | none => rw [e] at p; exact p.elim
  | some o =>
    cases o with
    | none => rw [e] at p; exact p.elim
    | some sv =>
      rw [e] at p
      cases sv with
      | val d =>
        obtain ⟨v, e1, r⟩ := st.slots i _ e
        exact ⟨v, e1, p v H W (Wd.Le.refl W) st r⟩
      | own ds => exact go _ rfl e p
      | ownD ks ds => exact go _ rfl e p
end

/-! ### targets -/
/-- where a frozen value goes -/
inductive Tg where
  | nm (i : Nat)
  | tp (ts : List Tg)
mutual
def tgSet : Tg → D → List (Option SV) → Option (List (Option SV))
  | .nm i, d, ρ => some (ρ.set i (some (.val d)))
  | .tp ts, .tup ds, ρ => tgsSet ts ds ρ
  | .tp _, _, _ => none
def tgsSet : List Tg → List D → List (Option SV) → Option (List (Option SV))
  | [], [], ρ => some ρ
  | t :: ts, d :: ds, ρ => (tgSet t d ρ).bind fun ρ1 => tgsSet ts ds ρ1
  | _, _, _ => none
end
mutual
def Tg.slots : Tg → List Nat
  | .nm i => [i]
  | .tp ts => Tg.slotsL ts
def Tg.slotsL : List Tg → List Nat
  | [] => []
  | t :: ts => t.slots ++ Tg.slotsL ts
end
def TGt (K : PySem.W.Frag) (B : Bs) (t : Tg) : L2.TG := fun v σ H Q => ∃ W s d ρ', StOk K B W s σ H ∧ Rep K W v d ∧ tgSet t d s.ρ = some ρ' ∧ ∀ σ' H' W', W.Le W' → StOk K B W' ⟨ρ', s.M⟩ σ' H' → (∀ j, j ∉ t.slots → σ'[j]? = σ[j]?) → Q σ' H'
def TGts (K : PySem.W.Frag) (B : Bs) (ts : List Tg) : L2.TGs := fun vs σ H Q => ∃ W s ds ρ', StOk K B W s σ H ∧ Reps K W vs ds ∧ tgsSet ts ds s.ρ = some ρ' ∧ ∀ σ' H' W', W.Le W' → StOk K B W' ⟨ρ', s.M⟩ σ' H' → (∀ j, j ∉ Tg.slotsL ts → σ'[j]? = σ[j]?) → Q σ' H'
structure SndG (X : Cx) (target : Expr) (t : Tg) : Prop where
  h : ∀ B, PG X target (TGt X.K B t)
structure SndGs (X : Cx) (target : List Expr) (t : List Tg) : Prop where
  h : ∀ B, PGs X target (TGts X.K B t)
theorem PG.imp {X : Cx} {e : Expr} {t t' : L2.TG} (h : PG X e t) (i : ∀ v σ H Q, t' v σ H Q → t v σ H Q) : PG X e t' := ⟨fun pins s σ H v u Q I r q => h.run pins s σ H v u Q I r (i v σ H Q q)⟩
theorem PGs.imp {X : Cx} {e : List Expr} {t t' : L2.TGs} (h : PGs X e t) (i : ∀ v σ H Q, t' v σ H Q → t v σ H Q) : PGs X e t' := ⟨fun pins s σ H v u Q I r q => h.run pins s σ H v u Q I r (i v σ H Q q)⟩
section
variable {X : Cx} {pos : Pos}
theorem sng_nm {i : Nat} {x : Str} (hN : X.N.Nodup) (hi : X.N[i]? = some x) (hx : Loc X.env.scope x) (hf : X.fn x = true ∨ X.env.scope.names.lookup x = some .local := by first | exact .inl rfl | exact .inr rfl | assumption) : SndG X (.Name x pos) (.nm i) := by
  refine ⟨fun B => PG.imp (pg_name hN hi hx hf) fun v σ H Q q => ?_⟩
  obtain ⟨W, s, d, ρ', st, r, e, k⟩ := q
  simp only [tgSet, Option.some.injEq] at e
  subst e
  exact k _ H W (Wd.Le.refl W) (st.setVal r) fun j hj => List.getElem?_set_ne (fun q => hj (by subst q; simp [Tg.slots]))
theorem sngs_nil : SndGs X [] [] := by
  refine ⟨fun B => PGs.imp pgs_nil fun v σ H Q q => ?_⟩
  obtain ⟨W, s, ds, ρ', st, r, e, k⟩ := q
  cases r with
  | nil =>
    simp only [tgsSet, Option.some.injEq] at e
    subst e
    exact ⟨rfl, k σ H W (Wd.Le.refl W) st fun _ _ => rfl⟩
  | cons _ _ => simp [tgsSet] at e
theorem sngs_cons {e : Expr} {es : List Expr} {t : Tg} {ts : List Tg} (h1 : SndG X e t) (h2 : SndGs X es ts) (hs : (assignEach (e :: es) X.env).map (·.2) = assign e X.env :: (assignEach es X.env).map (·.2) := by rfl) : SndGs X (e :: es) (t :: ts) := by
  refine ⟨fun B => PGs.imp (pgs_cons (h1.h B) (h2.h B) hs) fun v σ H Q q => ?_⟩
  obtain ⟨W, s, ds, ρ', st, r, e, k⟩ := q
  cases r with
  | nil => simp [tgsSet] at e
  | cons r1 r2 =>
    simp only [tgsSet] at e
    obtain ⟨ρ1, e1, e2⟩ := Option.bind_eq_some_iff.mp e
    refine ⟨_, _, rfl, W, s, _, ρ1, st, r1, e1, fun σ' H' W' l st' n1 => ?_⟩
    refine ⟨W', ⟨ρ1, s.M⟩, _, ρ', st', r2.mono l, e2, fun σ2 H2 W2 l2 st2 n2 => k σ2 H2 W2 (l.trans l2) st2 fun j hj => ?_⟩
    simp only [Tg.slotsL, List.mem_append, not_or] at hj
    rw [n2 j hj.2, n1 j hj.1]
theorem sng_tp {es : List Expr} {k : Nat} {ts : List Tg} {n : Nat} (hc : X.calm = true) (h : SndGs X es ts) (hlen : ts.length = n)
    (hn : (assignEach es X.env).length = n := by rfl) (hst : (assignEach es X.env).findIdx? (·.1) = none := by rfl) : SndG X (.Tuple es k pos) (.tp ts) := by
  refine ⟨fun B => PG.imp (pg_tup hc (h.h B) hn hst) fun v σ H Q q => ?_⟩
  obtain ⟨W, s, d, ρ', st, r, e, k⟩ := q
  cases r with
  | tup h1 h2 =>
    simp only [tgSet] at e
    have hl : ∀ (ts : List Tg) (ds : List D) (ρ ρ' : List (Option SV)), tgsSet ts ds ρ = some ρ' → ds.length = ts.length := by
      intro ts
      induction ts with
      | nil => intro ds ρ ρ' e; cases ds with
        | nil => rfl
        | cons _ _ => simp [tgsSet] at e
      | cons t ts ih => intro ds ρ ρ' e; cases ds with
        | nil => simp [tgsSet] at e
        | cons d ds =>
          simp only [tgsSet] at e
          obtain ⟨ρ1, _, e2⟩ := Option.bind_eq_some_iff.mp e
          simp [ih ds ρ1 ρ' e2]
    exact ⟨_, _, rfl, .of (st.sub _ _ h1), by rw [Reps.length h2, hl _ _ _ _ e, hlen], W, s, _, ρ', st, h2, e, fun σ' H' W' l st' n => k σ' H' W' l st' fun j hj => n j (by simpa [Tg.slots] using hj)⟩
  | _ => simp [tgSet] at e
end

/-! ### assignments -/
def dSet (i : Nat) (a : DE) : DS := fun s => (a s).bind fun x s1 => .ok .nx ⟨s1.ρ.set i (some x), s1.M⟩
def dUnp (t : Tg) (a : DE) : DS := fun s => (a s).bind fun x s1 => match tgSet t (frz x) s1.ρ with
  | some ρ' => .ok .nx ⟨ρ', s1.M⟩
  | none => .bad
/-- a list that is to be handed on as an object -/
def dSetObj (i : Nat) (a : DE) : DS := fun s => (a s).bind fun x s1 => match x with
  | .own ds => .ok .nx ⟨s1.ρ.set i (some (.val (.obj s1.M.length))), s1.M ++ [.lst ds]⟩
  | _ => .bad
section
variable {X : Cx} {E : XK} {e : Expr} {de : DE} {pos pos' : Pos}
theorem sns_set {i : Nat} {x : Str} (hN : X.N.Nodup) (hi : X.N[i]? = some x) (hx : Loc X.env.scope x) (he : SndE X E e de) (hs : swapsWith e (some (.Name x pos')) pos.line X.env = pure false := by rfl) (hf : X.fn x = true ∨ X.env.scope.names.lookup x = some .local := by first | exact .inl rfl | exact .inr rfl | assumption) :
    SndS X E (.Assign [.Name x pos'] e pos) (dSet i de) := by
  refine ⟨fun B => PS.imp (ps_set hN hi hx (he.h B) hs hf) fun D σ H q => ?_⟩
  obtain ⟨W, s, st, p⟩ := q
  refine PstS.seq (ok := okV X.K) st p fun v H1 W1 s1 x l st1 r1 p1 => ?_
  obtain ⟨W2, l2, st2⟩ := st1.setRes (i := i) r1
  exact p1 _ H1 W2 l2 st2
theorem sns_setObj {i : Nat} {x : Str} (hN : X.N.Nodup) (hi : X.N[i]? = some x) (hx : Loc X.env.scope x) (he : SndE X E e de) (hs : swapsWith e (some (.Name x pos')) pos.line X.env = pure false := by rfl) (hf : X.fn x = true ∨ X.env.scope.names.lookup x = some .local := by first | exact .inl rfl | exact .inr rfl | assumption) :
    SndS X E (.Assign [.Name x pos'] e pos) (dSetObj i de) := by
  refine ⟨fun B => PS.imp (ps_set hN hi hx (he.h B) hs hf) fun D σ H q => ?_⟩
  obtain ⟨W, s, st, p⟩ := q
  refine PstS.seq (ok := okV X.K) st p fun v H1 W1 s1 x l st1 r1 p1 => ?_
  cases x with
  | own ds =>
    obtain ⟨W2, l2, st2, r2⟩ := st1.promote r1
    exact p1 _ H1 W2 l2 (st2.setVal r2)
  | _ => exact p1.elim
theorem sns_unp {tg : Expr} {t : Tg} (he : SndE X E e de) (hg : SndG X tg t) (hs : swapsWithSole [tg] e pos.line X.env = pure false := by rfl) (hw : swappedStores [tg] e X.env = pure none := by rfl)
    (h1 : (assignEach [tg] X.env).map (·.2) = [assign tg X.env] := by rfl) : SndS X E (.Assign [tg] e pos) (dUnp t de) := by
  refine ⟨fun B => PS.imp (ps_asg (he.h B) (hg.h B) hs hw h1) fun D σ H q => ?_⟩
  obtain ⟨W, s, st, p⟩ := q
  refine PstS.seqD st p fun v H1 W1 s1 x l st1 r1 p1 => ?_
  split at p1
  · rename_i ρ' e1
    exact ⟨W1, s1, _, ρ', st1, r1, e1, fun σ' H' W' l' st' _ => p1 σ' H' W' l' st'⟩
  · exact p1.elim
end

/-! ### several values at once: what is its own stays its own -/
/-- what an expression gave is kept for later -/
theorem ticket {K : PySem.W.Frag} {B : Bs} {W : Wd} {s : Sx} {σ : L2.St} {H : Hp} {sv : SV} {v : V} (st : StOk K B W s σ H) (o : SvOk K W H .res 0 sv v) :
    ∃ W1, W.Lm W1 ∧ StOk K B W1 s σ H ∧ ∀ W2 s2 σ2 H2, W1.Le W2 → StOk K B W2 s2 σ2 H2 → ∃ W3, W2.Lm W3 ∧ W3.hold = W.hold ∧ StOk K B W3 s2 σ2 H2 ∧ SvOk K W3 H2 .res 0 sv v := by
  have go : ∀ (a : Addr) (ob : HO), W.lab a = some (.res, 0) → H a = some ob → (∀ (V : Wd) (H2 : Hp), W.Lm V → V.lab a = some (.res, 0) → H2 a = some ob → SvOk K V H2 .res 0 sv v) →
      ∃ W1, W.Lm W1 ∧ StOk K B W1 s σ H ∧ ∀ W2 s2 σ2 H2, W1.Le W2 → StOk K B W2 s2 σ2 H2 → ∃ W3, W2.Lm W3 ∧ W3.hold = W.hold ∧ StOk K B W3 s2 σ2 H2 ∧ SvOk K W3 H2 .res 0 sv v := fun a ob ha ho hk => by
    have hn : ∀ p, p ∈ W.hold → p.1 ≠ a := fun p hp z => by
      obtain ⟨q, _⟩ := st.hold p hp
      rw [z, ha] at q; cases q
    obtain ⟨l, g⟩ := st.park ha ho
    refine ⟨_, l, g, fun W2 s2 σ2 H2 l2 st2 => ?_⟩
    obtain ⟨g2, h2⟩ := st2.unpark (a := a) (o := ob) (hs := W.hold) (by rw [l2.hold]) hn
    exact ⟨{ W2 with lab := updl W2.lab a (some (.res, 0)), hold := W.hold }, ⟨fun _ _ e => e, fun _ _ e => e⟩, rfl, g2, hk _ _ ⟨fun b u e => l2.F b u (l.F b u e), fun n b e => l2.mm n b (l.mm n b e)⟩ updl_same h2⟩
  cases sv with
  | val d => exact ⟨W, ⟨fun _ _ e => e, fun _ _ e => e⟩, st, fun W2 s2 σ2 H2 l2 st2 => ⟨W2, ⟨fun _ _ e => e, fun _ _ e => e⟩, l2.hold, st2, Rep.mono l2 o⟩⟩
  | own ds =>
    obtain ⟨a, vs, rfl, h1, h2, h3⟩ := o
    exact go a _ h1 h2 fun V H2 l q1 q2 => ⟨a, vs, rfl, q1, q2, h3.monoM l⟩
  | ownD ks ds =>
    obtain ⟨a, kvs, rfl, h1, h2, h3, h4⟩ := o
    exact go a _ h1 h2 fun V H2 l q1 q2 => ⟨a, kvs, rfl, q1, q2, h3, h4.monoM l⟩
theorem Wd.Lm.le {W W' : Wd} (l : W.Lm W') (h : W'.hold = W.hold) : W.Le W' := ⟨l.F, l.mm, h⟩
theorem Wd.Lm.trans {W W1 W2 : Wd} (a : W.Lm W1) (b : W1.Lm W2) : W.Lm W2 := ⟨fun c o h => b.F c o (a.F c o h), fun c o h => b.mm c o (a.mm c o h)⟩
theorem Wd.Lm.refl (W : Wd) : W.Lm W := ⟨fun _ _ e => e, fun _ _ e => e⟩
def dPar2 (i j : Nat) (a b : DE) : DS := fun s => (a s).bind fun x s1 => (b s1).bind fun y s2 => .ok .nx ⟨(s2.ρ.set j (some y)).set i (some x), s2.M⟩
def dPar3 (i j l : Nat) (a b c : DE) : DS := fun s => (a s).bind fun x s1 => (b s1).bind fun y s2 => (c s2).bind fun z s3 => .ok .nx ⟨((s3.ρ.set l (some z)).set j (some y)).set i (some x), s3.M⟩
section
variable {K : PySem.W.Frag} {B : Bs} {E : XK} {σ : L2.St} {H : Hp}
/-- the first of several values: the rest is at another world, whose ends come back -/
theorem PX.lm {W W1 : Wd} {C : Str} {M : List MO} (h : PX K B W E C M) (l : W.Lm W1) (back : ∀ W2 s2 σ2 H2, W1.Le W2 → StOk K B W2 s2 σ2 H2 → ∃ W3, W2.Lm W3 ∧ W3.hold = W.hold ∧ StOk K B W3 s2 σ2 H2) : PX K B W1 E C M := fun H' W' l' st' => by
  obtain ⟨W3, l3, h3, st3⟩ := back W' _ _ H' l' st'
  exact h H' W3 (((l.trans l'.m).trans l3).le h3) st3
theorem par2 {i j : Nat} {a b : DE} {D : Ends} (q : TS' K B E (dPar2 i j a b) D σ H) : tCons (TG (okV K) K B E a) (tCons (TG (okV K) K B E b) tNil) σ H fun vs H1 => ∃ v w, vs = [v, w] ∧ ∀ H2, (∀ V s' σ', StOk K B V s' σ' H1 → StOk K B V s' σ' H2) → D.nx ((σ.set j (some w)).set i (some v)) H2 := by
  obtain ⟨W, s, st, p⟩ := q
  refine PstS.seq (ok := okV K) st p fun v H1 W1 s1 x l st1 r1 p1 => ?_
  obtain ⟨W2, l2, st2, back⟩ := ticket st1 r1
  refine ⟨W2, s1, st2, ?_⟩
  cases e : b s1 with
  | ok y s2 =>
    rw [e] at p1
    intro w H3 W3 l3 st3 r3
    refine ⟨v, w, rfl, fun H2 jk => ?_⟩
    obtain ⟨W4, l4, st4⟩ := st3.setRes (i := j) r3
    obtain ⟨W5, l5, h5, st5, o5⟩ := back W4 _ _ H3 (l3.trans l4) st4
    obtain ⟨W6, l6, st6⟩ := st5.setRes (i := i) o5
    exact p1 _ H2 W6 ((((l2.trans l3.m).trans (l4.m.trans l5)).le h5).trans l6) (jk _ _ _ st6)
  | exc C M =>
    rw [e] at p1
    exact PX.lm p1 l2 fun W3 s3 σ3 H3 l3 st3 => by
      obtain ⟨W4, l4, h4, st4, _⟩ := back W3 s3 σ3 H3 l3 st3
      exact ⟨W4, l4, h4, st4⟩
  | bad => rw [e] at p1; exact p1
theorem par3 {i j k : Nat} {a b c : DE} {D : Ends} (q : TS' K B E (dPar3 i j k a b c) D σ H) : tCons (TG (okV K) K B E a) (tCons (TG (okV K) K B E b) (tCons (TG (okV K) K B E c) tNil)) σ H fun vs H1 => ∃ u v w, vs = [u, v, w] ∧ ∀ H2, (∀ V s' σ', StOk K B V s' σ' H1 → StOk K B V s' σ' H2) → D.nx (((σ.set k (some w)).set j (some v)).set i (some u)) H2 := by
  obtain ⟨W, s, st, p⟩ := q
  refine PstS.seq (ok := okV K) st p fun u H1 W1 s1 x l st1 r1 p1 => ?_
  obtain ⟨W2, l2, st2, back⟩ := ticket st1 r1
  refine ⟨W2, s1, st2, ?_⟩
  cases e : b s1 with
  | ok y s2 =>
    rw [e] at p1
    intro v H3 W3 l3 st3 r3
    obtain ⟨W4, l4, st4, back2⟩ := ticket st3 r3
    refine ⟨W4, s2, st4, ?_⟩
    have p2 : PstS K B W1 E ((c s2).bind fun z s3 => .ok .nx ⟨((s3.ρ.set k (some z)).set j (some y)).set i (some x), s3.M⟩) D := p1
    cases e2 : c s2 with
    | ok z s3 =>
      rw [e2] at p2
      intro w H5 W5 l5 st5 r5
      refine ⟨u, v, w, rfl, fun H2 jk => ?_⟩
      obtain ⟨W6, l6, st6⟩ := st5.setRes (i := k) r5
      obtain ⟨W7, l7, h7, st7, o7⟩ := back2 W6 _ _ H5 (l5.trans l6) st6
      obtain ⟨W8, l8, st8⟩ := st7.setRes (i := j) o7
      have l48 : W3.Le W8 := (((l4.trans (l5.m.trans (l6.m.trans l7))).le h7)).trans l8
      obtain ⟨W9, l9, h9, st9, o9⟩ := back W8 _ _ H5 (l3.trans l48) st8
      obtain ⟨W10, l10, st10⟩ := st9.setRes (i := i) o9
      exact p2 _ H2 W10 ((((l2.trans l3.m).trans (l48.m.trans l9)).le h9).trans l10) (jk _ _ _ st10)
    | exc C M =>
      rw [e2] at p2
      have q3 : PX K B W3 E C M := fun H' W' l' st' => by
        obtain ⟨V, lv, hv, sv, _⟩ := back W' _ _ H' (l3.trans l') st'
        exact p2 H' V (((l2.trans l3.m).trans (l'.m.trans lv)).le hv) sv
      exact PX.lm q3 l4 fun W5 s5 σ5 H5 l5 st5 => by
        obtain ⟨W6, l6, h6, st6, _⟩ := back2 W5 s5 σ5 H5 l5 st5
        exact ⟨W6, l6, h6, st6⟩
    | bad => rw [e2] at p2; exact p2
  | exc C M =>
    rw [e] at p1
    exact PX.lm p1 l2 fun W3 s3 σ3 H3 l3 st3 => by
      obtain ⟨W4, l4, h4, st4, _⟩ := back W3 s3 σ3 H3 l3 st3
      exact ⟨W4, l4, h4, st4⟩
  | bad => rw [e] at p1; exact p1
end
end DL
/-! The data layer, part 9: values side by side, loops, stores, list methods, comprehensions. -/
namespace DL
open PySem PySem.Spec PyProof.Rows L2

section
variable {X : Cx} {E : XK} {pos px py pz pt pt2 : Pos} {kt k2 : Nat}
theorem sns_par2 {i j : Nat} {x y : Str} {a b : Expr} {da db : DE} {kt k2} (hc : X.calm = true) (hN : X.N.Nodup) (hi : X.N[i]? = some x) (hj : X.N[j]? = some y) (hij : i ≠ j)
    (hx : X.env.scope.names.lookup x = some .local) (hy : X.env.scope.names.lookup y = some .local) (ha : SndE X E a da) (hb : SndE X E b db)
    (hw : swappedStores [.Tuple [.Name x px, .Name y py] kt pt] (.Tuple [a, b] k2 pt2) X.env = pure (some [x, y]))
    (e1 : starEach [a, b] X.env = (false, eval a X.env) :: starEach [b] X.env := by rfl) (e2 : starEach [b] X.env = (false, eval b X.env) :: starEach [] X.env := by rfl)
    (hs : swapsWithSole [.Tuple [.Name x px, .Name y py] kt pt] (.Tuple [a, b] k2 pt2) pos.line X.env = pure false := by rfl) :
    SndS X E (.Assign [.Tuple [.Name x px, .Name y py] kt pt] (.Tuple [a, b] k2 pt2) pos) (dPar2 i j da db) := by
  refine ⟨fun B => PS.imp (ps_par hc hN hi hj hij hx hy (pa_cons (ha.h B) (pa_cons (hb.h B) pa_nil e2) e1) hw hs) fun D σ H q => ?_⟩
  obtain ⟨W, s, st, p⟩ := par2 q
  refine ⟨W, s, st, Pst.imp p fun v H1 h => ?_⟩
  obtain ⟨W2, s2, st2, p2⟩ := h
  refine ⟨W2, s2, st2, Pst.imp p2 fun u H2 h2 => ?_⟩
  obtain ⟨v', w, e, k⟩ := h2
  refine ⟨v', w, e, ?_⟩
  rw [List.set_comm _ _ hij]
  exact k H2 fun _ _ _ z => z
theorem sns_par3 {i j l : Nat} {x y z : Str} {a b c : Expr} {da db dc : DE} {kt k2} (hc : X.calm = true) (hN : X.N.Nodup) (hi : X.N[i]? = some x) (hj : X.N[j]? = some y) (hl : X.N[l]? = some z) (hij : i ≠ j) (hil : i ≠ l) (hjl : j ≠ l)
    (hx : X.env.scope.names.lookup x = some .local) (hy : X.env.scope.names.lookup y = some .local) (hz : X.env.scope.names.lookup z = some .local) (ha : SndE X E a da) (hb : SndE X E b db) (hcc : SndE X E c dc)
    (hw : swappedStores [.Tuple [.Name x px, .Name y py, .Name z pz] kt pt] (.Tuple [a, b, c] k2 pt2) X.env = pure (some [x, y, z]))
    (e1 : starEach [a, b, c] X.env = (false, eval a X.env) :: starEach [b, c] X.env := by rfl) (e2 : starEach [b, c] X.env = (false, eval b X.env) :: starEach [c] X.env := by rfl) (e3 : starEach [c] X.env = (false, eval c X.env) :: starEach [] X.env := by rfl)
    (hs : swapsWithSole [.Tuple [.Name x px, .Name y py, .Name z pz] kt pt] (.Tuple [a, b, c] k2 pt2) pos.line X.env = pure false := by rfl) :
    SndS X E (.Assign [.Tuple [.Name x px, .Name y py, .Name z pz] kt pt] (.Tuple [a, b, c] k2 pt2) pos) (dPar3 i j l da db dc) := by
  refine ⟨fun B => PS.imp (ps_par3 hc hN hi hj hl hij hil hjl hx hy hz (pa_cons (ha.h B) (pa_cons (hb.h B) (pa_cons (hcc.h B) pa_nil e3) e2) e1) hw hs) fun D σ H q => ?_⟩
  obtain ⟨W, s, st, p⟩ := par3 q
  refine ⟨W, s, st, Pst.imp p fun v H1 h => ?_⟩
  obtain ⟨W2, s2, st2, p2⟩ := h
  refine ⟨W2, s2, st2, Pst.imp p2 fun u H2 h2 => ?_⟩
  obtain ⟨W3, s3, st3, p3⟩ := h2
  refine ⟨W3, s3, st3, Pst.imp p3 fun u3 H3 h3 => ?_⟩
  obtain ⟨u', v', w, e, k⟩ := h3
  refine ⟨u', v', w, e, ?_⟩
  have e4 : ((σ.set i (some u')).set j (some v')).set l (some w) = ((σ.set l (some w)).set j (some v')).set i (some u') := by
    rw [List.set_comm _ _ hij, List.set_comm _ _ hil, List.set_comm _ _ hjl]
  rw [e4]
  exact k H3 fun _ _ _ z => z
/-- .. where a name is a cell: the pair is made, and taken apart -/
theorem sns_par2c {i j : Nat} {x y : Str} {a b : Expr} {da db : DE} {kt k2} (hc : X.calm = true) (hN : X.N.Nodup) (hi : X.N[i]? = some x) (hj : X.N[j]? = some y) (hij : i ≠ j)
    (hx : Loc X.env.scope x) (hy : Loc X.env.scope y) (fx : X.fn x = true) (fy : X.fn y = true) (ha : SndE X E a da) (hb : SndE X E b db)
    (hw : swappedStores [.Tuple [.Name x px, .Name y py] kt pt] (.Tuple [a, b] k2 pt2) X.env = pure none := by rfl)
    (e1 : starEach [a, b] X.env = (false, eval a X.env) :: starEach [b] X.env := by rfl) (e2 : starEach [b] X.env = (false, eval b X.env) :: starEach [] X.env := by rfl)
    (hs : swapsWithSole [.Tuple [.Name x px, .Name y py] kt pt] (.Tuple [a, b] k2 pt2) pos.line X.env = pure false := by rfl)
    (h1 : (assignEach [.Tuple [.Name x px, .Name y py] kt pt] X.env).map (·.2) = [assign (.Tuple [.Name x px, .Name y py] kt pt) X.env] := by rfl)
    (h2 : (assignEach [.Name x px, .Name y py] X.env).map (·.2) = assign (.Name x px) X.env :: (assignEach [.Name y py] X.env).map (·.2) := by rfl) (h3 : (assignEach [.Name y py] X.env).map (·.2) = assign (.Name y py) X.env :: (assignEach [] X.env).map (·.2) := by rfl)
    (hn : (assignEach [.Name x px, .Name y py] X.env).length = 2 := by rfl) (hst : (assignEach [.Name x px, .Name y py] X.env).findIdx? (·.1) = none := by rfl) :
    SndS X E (.Assign [.Tuple [.Name x px, .Name y py] kt pt] (.Tuple [a, b] k2 pt2) pos) (dPar2 i j da db) := by
  refine ⟨fun B => PS.imp (ps_asg (pe_tup (pa_cons (ha.h B) (pa_cons (hb.h B) pa_nil e2) e1)) (pg_tup hc (pgs_cons (pg_name hN hi hx (.inl fx)) (pgs_cons (pg_name hN hj hy (.inl fy)) pgs_nil h3) h2) hn hst) hs hw h1) fun D σ H q => ?_⟩
  obtain ⟨W, s, st, p⟩ := par2 q
  refine ⟨W, s, st, Pst.imp p fun v H1 h => ?_⟩
  obtain ⟨W2, s2, st2, p2⟩ := h
  refine ⟨W2, s2, st2, Pst.imp p2 fun u H2 h2 => ?_⟩
  obtain ⟨v', w, e, k⟩ := h2
  cases e
  refine ⟨by show 2 ≤ sizeLine; exact le_line (by decide), fun q hq => ?_⟩
  refine ⟨q, _, rfl, .of upd_same, rfl, v, _, rfl, u, _, rfl, rfl, ?_⟩
  rw [List.set_comm _ _ hij]
  exact k _ fun V s' σ' z => z.junk hq
theorem sns_par3c {i j l : Nat} {x y z : Str} {a b c : Expr} {da db dc : DE} {kt k2} (hc : X.calm = true) (hN : X.N.Nodup) (hi : X.N[i]? = some x) (hj : X.N[j]? = some y) (hl : X.N[l]? = some z) (hij : i ≠ j) (hil : i ≠ l) (hjl : j ≠ l)
    (hx : Loc X.env.scope x) (hy : Loc X.env.scope y) (hz : Loc X.env.scope z) (fx : X.fn x = true) (fy : X.fn y = true) (fz : X.fn z = true) (ha : SndE X E a da) (hb : SndE X E b db) (hcc : SndE X E c dc)
    (hw : swappedStores [.Tuple [.Name x px, .Name y py, .Name z pz] kt pt] (.Tuple [a, b, c] k2 pt2) X.env = pure none := by rfl)
    (e1 : starEach [a, b, c] X.env = (false, eval a X.env) :: starEach [b, c] X.env := by rfl) (e2 : starEach [b, c] X.env = (false, eval b X.env) :: starEach [c] X.env := by rfl) (e3 : starEach [c] X.env = (false, eval c X.env) :: starEach [] X.env := by rfl)
    (hs : swapsWithSole [.Tuple [.Name x px, .Name y py, .Name z pz] kt pt] (.Tuple [a, b, c] k2 pt2) pos.line X.env = pure false := by rfl)
    (h1 : (assignEach [.Tuple [.Name x px, .Name y py, .Name z pz] kt pt] X.env).map (·.2) = [assign (.Tuple [.Name x px, .Name y py, .Name z pz] kt pt) X.env] := by rfl)
    (h2 : (assignEach [.Name x px, .Name y py, .Name z pz] X.env).map (·.2) = assign (.Name x px) X.env :: (assignEach [.Name y py, .Name z pz] X.env).map (·.2) := by rfl) (h3 : (assignEach [.Name y py, .Name z pz] X.env).map (·.2) = assign (.Name y py) X.env :: (assignEach [.Name z pz] X.env).map (·.2) := by rfl)
    (h4 : (assignEach [.Name z pz] X.env).map (·.2) = assign (.Name z pz) X.env :: (assignEach [] X.env).map (·.2) := by rfl)
    (hn : (assignEach [.Name x px, .Name y py, .Name z pz] X.env).length = 3 := by rfl) (hst : (assignEach [.Name x px, .Name y py, .Name z pz] X.env).findIdx? (·.1) = none := by rfl) :
    SndS X E (.Assign [.Tuple [.Name x px, .Name y py, .Name z pz] kt pt] (.Tuple [a, b, c] k2 pt2) pos) (dPar3 i j l da db dc) := by
  refine ⟨fun B => PS.imp (ps_asg (pe_tup (pa_cons (ha.h B) (pa_cons (hb.h B) (pa_cons (hcc.h B) pa_nil e3) e2) e1)) (pg_tup hc (pgs_cons (pg_name hN hi hx (.inl fx)) (pgs_cons (pg_name hN hj hy (.inl fy)) (pgs_cons (pg_name hN hl hz (.inl fz)) pgs_nil h4) h3) h2) hn hst) hs hw h1) fun D σ H q => ?_⟩
  obtain ⟨W, s, st, p⟩ := par3 q
  refine ⟨W, s, st, Pst.imp p fun v H1 h => ?_⟩
  obtain ⟨W2, s2, st2, p2⟩ := h
  refine ⟨W2, s2, st2, Pst.imp p2 fun u H2 h2 => ?_⟩
  obtain ⟨W3, s3, st3, p3⟩ := h2
  refine ⟨W3, s3, st3, Pst.imp p3 fun u3 H3 h3 => ?_⟩
  obtain ⟨u', v', w, e, k⟩ := h3
  cases e
  refine ⟨by show 3 ≤ sizeLine; exact le_line (by decide), fun q hq => ?_⟩
  refine ⟨q, _, rfl, .of upd_same, rfl, v, _, rfl, u, _, rfl, u3, _, rfl, rfl, ?_⟩
  have e4 : ((σ.set i (some v)).set j (some u)).set l (some u3) = ((σ.set l (some u3)).set j (some u)).set i (some v) := by
    rw [List.set_comm _ _ hij, List.set_comm _ _ hil, List.set_comm _ _ hjl]
  rw [e4]
  exact k _ fun V s' σ' z => z.junk hq
end

/-! ### what a loop walks -/
abbrev DI := Sx → R (List D)
/-- the iterator gives these, one after another -/
def Srv (K : PySem.W.Frag) (B : Bs) (J : It) (ds : List D) (W : Wd) : Prop := ∀ (i : Nat) (σ : L2.St) (H : Hp) (W1 : Wd) (s : Sx), W.Le W1 → StOk K B W1 s σ H →
  (∀ d, ds[i]? = some d → J.go i H ∧ ∀ x H', J.yld i H x H' → ∃ W2, W1.Le W2 ∧ StOk K B W2 s σ H' ∧ Rep K W2 x d) ∧ (ds[i]? = none → J.stop i H)
/-- .. whatever is held back besides -/
def SrvM (K : PySem.W.Frag) (B : Bs) (J : It) (ds : List D) (W : Wd) : Prop := ∀ (i : Nat) (σ : L2.St) (H : Hp) (W1 : Wd) (s : Sx), W.Lm W1 → StOk K B W1 s σ H →
  (∀ d, ds[i]? = some d → J.go i H ∧ ∀ x H', J.yld i H x H' → ∃ W2, W1.Le W2 ∧ StOk K B W2 s σ H' ∧ Rep K W2 x d) ∧ (ds[i]? = none → J.stop i H)
def PstI (K : PySem.W.Frag) (B : Bs) (W : Wd) (E : XK) (σ : L2.St) (r : R (List D)) (Rj : It → Hp → Prop) : Prop := match r with
  | .ok ds s => ∀ J H W', W.Le W' → StOk K B W' s σ H → ds.length ≤ sizeLine → SrvM K B J ds W' → Rj J H
  | .exc C M => PX K B W E C M
  | .bad => False
def TIr (K : PySem.W.Frag) (B : Bs) (E : XK) (di : DI) : L2.TI := fun σ H Rj => ∃ W s, StOk K B W s σ H ∧ PstI K B W E σ (di s) Rj
structure SndI (X : Cx) (E : XK) (tg iter : Expr) (di : DI) : Prop where
  h : ∀ B, PI X tg iter (TIr X.K B E di)
theorem PI.imp {X : Cx} {tg iter : Expr} {t t' : L2.TI} (h : PI X tg iter t) (i : ∀ σ H R, t' σ H R → t σ H R) : PI X tg iter t' := ⟨fun pins s σ H R I q => h.run pins s σ H R I (i σ H R q)⟩
section
variable {K : PySem.W.Frag} {B : Bs} {W W' : Wd} {E : XK} {σ : L2.St} {H : Hp} {s : Sx}
theorem PstI.mono {r : R (List D)} {Q : It → Hp → Prop} (l : W.Le W') (h : PstI K B W E σ r Q) : PstI K B W' E σ r Q := by
  cases r with
  | ok a s => exact fun b H V lv => h b H V (l.trans lv)
  | exc C M => exact fun H' V lv => h H' V (l.trans lv)
  | bad => exact h
theorem PstI.seq {α β : Type} {ok : Wd → Hp → α → β → Prop} {a : Sx → R α} {k : α → Sx → R (List D)} {Q : It → Hp → Prop} {Q1 : β → Hp → Prop}
    (st : StOk K B W s σ H) (p : PstI K B W E σ ((a s).bind k) Q) (n : ∀ b H1 W1 s1 x, W.Le W1 → StOk K B W1 s1 σ H1 → ok W1 H1 x b → PstI K B W1 E σ (k x s1) Q → Q1 b H1) : TG ok K B E a σ H Q1 := by
  refine ⟨W, s, st, ?_⟩
  cases e : a s with
  | ok x s1 =>
    rw [e] at p
    exact fun b H1 W1 l st1 o => n b H1 W1 s1 x l st1 o (PstI.mono l p)
  | exc C M => rw [e] at p; exact p
  | bad => rw [e] at p; exact p
theorem PstI.seqD {a : DE} {k : SV → Sx → R (List D)} {Q : It → Hp → Prop} {Q1 : VK}
    (st : StOk K B W s σ H) (p : PstI K B W E σ ((a s).bind k) Q) (n : ∀ v H1 W1 s1 x, W.Le W1 → StOk K B W1 s1 σ H1 → Rep K W1 v (frz x) → PstI K B W1 E σ (k x s1) Q → Q1 v H1) : TG (okV K) K B E a σ H Q1 :=
  PstI.seq st p fun b H1 W1 s1 x l st o p => by
    obtain ⟨W2, l2, st2, r⟩ := st.freeze (r := .res) (fun z => by exact z) o
    exact n b H1 W2 s1 x (l.trans l2) st2 r (PstI.mono l2 p)
theorem srv_list {a : Addr} {vs : List V} {ds : List D} (h : W.F a = some (.lst vs)) (r : Reps K W vs ds) : SrvM K B (Itl K a) ds W := by
  intro i σ H W1 s l st
  have hq : SqL K H a vs := .of (st.sub _ _ (l.F _ _ h))
  refine ⟨fun d e => ?_, fun e => ?_⟩
  · obtain ⟨v, h1, h2⟩ := Reps.get r e
    refine ⟨⟨vs, v, hq, h1⟩, fun x H' y => ?_⟩
    obtain ⟨e2, y⟩ := y
    subst e2
    have := y vs hq
    rw [h1] at this; cases this
    exact ⟨W1, Wd.Le.refl W1, st, h2.monoM l⟩
  · refine ⟨vs, hq, ?_⟩
    rw [Reps.length r]; exact List.getElem?_eq_none_iff.mp e
theorem srv_tup {a : Addr} {vs : List V} {ds : List D} (h : W.F a = some (.tup vs)) (r : Reps K W vs ds) : SrvM K B (Itt K a) ds W := by
  intro i σ H W1 s l st
  have hq : SqT K H a vs := .of (st.sub _ _ (l.F _ _ h))
  refine ⟨fun d e => ?_, fun e => ?_⟩
  · obtain ⟨v, h1, h2⟩ := Reps.get r e
    refine ⟨⟨vs, v, hq, h1⟩, fun x H' y => ?_⟩
    obtain ⟨e2, y⟩ := y
    subst e2
    have := y vs hq
    rw [h1] at this; cases this
    exact ⟨W1, Wd.Le.refl W1, st, h2.monoM l⟩
  · refine ⟨vs, hq, ?_⟩
    rw [Reps.length r]; exact List.getElem?_eq_none_iff.mp e
def strD (x : Str) : List D := x.cps.toList.map fun c => D.str ⟨#[c]⟩
theorem srv_str {x : Str} (hx : okS x = true) : SrvM K B (Its x) (strD x) W := by
  intro i σ H W1 s l st
  refine ⟨fun d e => ?_, fun e => ?_⟩
  · unfold strD at e
    rw [List.getElem?_map] at e
    cases e1 : x.cps.toList[i]? with
    | none => rw [e1] at e; cases e
    | some c =>
      rw [e1] at e
      cases e
      have hlt := (List.getElem?_eq_some_iff.mp e1).1
      refine ⟨by show i < x.cps.size; simpa using hlt, fun y H' z => ?_⟩
      obtain ⟨e2, c', h1, e3⟩ := z
      subst e2 e3
      have : c' = c := by
        have q : x.cps.toList[i]? = some c' := by simpa using h1
        rw [e1] at q; exact (Option.some.inj q).symm
      subst this
      exact ⟨W1, Wd.Le.refl W1, st, .str _ (okS_sign hx (List.mem_of_getElem? e1))⟩
  · have := List.getElem?_eq_none_iff.mp e
    show x.cps.size ≤ i
    simpa [strD] using this
def rngD (lo : Int) (n : Nat) : List D := (List.range n).map fun k => D.int (lo + (k : Nat))
theorem srv_rng {lo : Int} {n : Nat} : SrvM K B (Itr lo n) (rngD lo n) W := by
  intro i σ H W1 s l st
  refine ⟨fun d e => ?_, fun e => ?_⟩
  · unfold rngD at e
    rw [List.getElem?_map] at e
    cases e1 : (List.range n)[i]? with
    | none => rw [e1] at e; cases e
    | some c =>
      rw [e1] at e
      cases e
      obtain ⟨h1, h2⟩ := List.getElem?_eq_some_iff.mp e1
      rw [List.getElem_range] at h2
      subst h2
      refine ⟨by show i < n; simpa using h1, fun y H' z => ?_⟩
      obtain ⟨e2, e3⟩ := z
      subst e2 e3
      exact ⟨W1, Wd.Le.refl W1, st, .int _⟩
  · have := List.getElem?_eq_none_iff.mp e
    show n ≤ i
    simpa [rngD] using this
end
/-- a frozen value, walked -/
def itemsOf : D → Option (List D)
  | .lst ds => some ds
  | .tup ds => some ds
  | .str x => some (strD x)
  | .scr ns => some (ns.map .int)
  | _ => none
def diAny (a : DE) : DI := fun s => (a s).bind fun x s1 => R.opt (itemsOf (frz x)) s1
def diR1 (a : DE) : DI := fun s => (a s).bind fun x s1 => match frz x with
  | .int j => if -1000000 ≤ j ∧ j ≤ 1000000 then .ok (rngD 0 j.toNat) s1 else .bad
  | _ => .bad
def diR2 (a b : DE) : DI := fun s => (a s).bind fun x s1 => (b s1).bind fun y s2 => match frz x, frz y with
  | .int i, .int j => if (-1000000 ≤ i ∧ i ≤ 1000000) ∧ -1000000 ≤ j ∧ j ≤ 1000000 then .ok (rngD i (j - i).toNat) s2 else .bad
  | _, _ => .bad
section
variable {X : Cx} {E : XK} {tg : Expr}
theorem snd_iAny {l : Expr} {de : DE} (hl : SndE X E l de) : SndI X E tg l (diAny de) := by
  refine ⟨fun B => ⟨fun pins s σ H Rj I q => ?_⟩⟩
  obtain ⟨W, sx, st, p⟩ := q
  have h1 : TG (okV X.K) X.K B E de σ H (fun x H1 => ∃ W1 s1 d, StOk X.K B W1 s1 σ H1 ∧ Rep X.K W1 x d ∧ PstI X.K B W1 E σ (R.opt (itemsOf d) s1) Rj) := PstI.seqD st p fun v H1 W1 s1 x l st1 r1 p1 => ⟨W1, s1, _, st1, r1, p1⟩
  refine thn ((hl.h B).run pins s σ H _ I h1) fun v s1 ⟨x, H1, I1, r1, W1, sy, d, st1, rp, p1⟩ => ?_
  have goL : ∀ (a : Addr) (vs : List V) (ds : List D), SqL X.K H1 a vs → v = .ref a → vs.length = ds.length → (ds.length ≤ sizeLine → Rj (Itl X.K a) H1) → wpAny (model X.prog X.w) X.A (pyIter v) (PIE X pins σ tg Rj) X.xe s1 := fun a vs ds hq ev hl q => by
    subst ev
    obtain ⟨its, rv, p, hz⟩ := I1.list hq
    refine wpAny_pyIter_list p.isList ?_
    refine ⟨s1.heap.objs.size, [s1.heap.objs.size], _, _, H1, rfl, I1.kept (t' := s1.toks) fun b o e => Heap.get?_push_of_some _ e, turn_list a _, ⟨_, Heap.get?_push_size _ rfl, rfl, rfl⟩, fun b hb => ?_, q (by rw [← hl]; exact hz)⟩
    have e : b = s1.heap.objs.size := by simpa using hb
    subst e
    exact I1.fpOk (Nat.le_refl _) (I1.hok.fresh (Nat.le_refl _))
  cases rp with
  | lst h r =>
    cases r1
    exact goL _ _ _ (.of (st1.sub _ _ h)) rfl (Reps.length r) fun hz => p1 _ H1 W1 (Wd.Le.refl W1) st1 hz (srv_list h r)
  | @scr a ns h =>
    cases r1
    refine goL a _ (ns.map .int) (Same.seq (K := X.K) (H := W1.F) (H' := H1) st1.sub h) rfl (by simp) fun hz => p1 _ H1 W1 (Wd.Le.refl W1) st1 hz ?_
    intro i σ2 H2 W2 s2 l2 st2
    have hq : SqL X.K H2 a (ns.map V.int) := Same.seq (K := X.K) (H := W1.F) (H' := H2) (fun b o e => st2.sub b o (l2.F b o e)) h
    refine ⟨fun d e => ?_, fun e => ?_⟩
    · rw [List.getElem?_map] at e
      cases e1 : ns[i]? with
      | none => rw [e1] at e; cases e
      | some z =>
        rw [e1] at e
        cases e
        have hz : (ns.map V.int)[i]? = some (.int z) := by rw [List.getElem?_map, e1]; rfl
        refine ⟨⟨_, _, hq, hz⟩, fun y H' q => ?_⟩
        obtain ⟨e2, q⟩ := q
        subst e2
        have := q _ hq
        rw [hz] at this; cases this
        exact ⟨W2, Wd.Le.refl W2, st2, .int z⟩
    · exact ⟨_, hq, by simpa using List.getElem?_eq_none_iff.mp e⟩
  | @tup a vs ds h r =>
    cases r1
    have hq : SqT X.K H1 a vs := .of (st1.sub _ _ h)
    obtain ⟨its, rv, p, hz⟩ := I1.tuple hq
    have q : Rj (Itt X.K a) H1 := p1 _ H1 W1 (Wd.Le.refl W1) st1 (by rw [← Reps.length r]; exact hz) (srv_tup h r)
    refine wpAny_pyIter_tuple (show s1.heap.IsTuple a its.toArray from p) ?_
    refine ⟨s1.heap.objs.size, [s1.heap.objs.size], _, _, H1, rfl, I1.kept (t' := s1.toks) fun b o e => Heap.get?_push_of_some _ e, turn_tuple a _, ⟨_, Heap.get?_push_size _ rfl, rfl, rfl⟩, fun b hb => ?_, q⟩
    have e : b = s1.heap.objs.size := by simpa using hb
    subst e
    exact I1.fpOk (Nat.le_refl _) (I1.hok.fresh (Nat.le_refl _))
  | str z hz =>
    obtain ⟨t, rfl⟩ := r1
    have hlen : (strD z).length ≤ sizeLine := by
      have : (strD z).length = z.length := by simp [strD, Str.length]
      rw [this]; exact lim_line (okS.len hz)
    have q : Rj (Its z) H1 := p1 _ H1 W1 (Wd.Le.refl W1) st1 hlen (srv_str hz)
    cases ha : z.cps.all (· < 128)
    · exact wpAny_pyIter_wide ha (pi_one (tk := s1.toks) I1 _ (turn_str _ z t "str_iterator" (.inr rfl)) ⟨_, Heap.get?_push_size _ rfl, rfl, rfl⟩ q)
    · exact wpAny_pyIter_ascii ha (pi_one (tk := s1.toks) I1 _ (turn_str _ z t "str_ascii_iterator" (.inl rfl)) ⟨_, Heap.get?_push_size _ rfl, rfl, rfl⟩ q)
  | _ => exact p1.elim
theorem rng_len {lo : Int} {n : Nat} (h : n ≤ 10000000) : (rngD lo n).length ≤ sizeLine := by
  simp only [rngD, List.length_map, List.length_range]
  rw [sizeLine_eq]; omega
theorem snd_iR1 {a : Expr} {da : DE} {p pos : Pos} (hg : Gl X "range") (hm : X.mg "range" = none) (ha : SndE X E a da) (hs : starEach [a] X.env = [(false, eval a X.env)] := by rfl) : SndI X E tg (.Call (.Name "range" p) [a] [] pos) (diR1 da) := by
  refine ⟨fun B => PI.imp (pi_range1 hg hm (pa_cons (ha.h B) pa_nil (by rw [hs]; rfl)) hs) fun σ H R q => ?_⟩
  obtain ⟨W, s, st, p⟩ := q
  refine PstI.seqD st p fun v H1 W1 s1 x l st1 r1 p1 => ?_
  generalize frz x = d at r1 p1
  cases r1 with
  | int j =>
    dsimp only at p1
    split at p1
    · rename_i h
      exact ⟨j, rfl, by omega, by omega, p1 _ H1 W1 (Wd.Le.refl W1) st1 (rng_len (by omega)) srv_rng⟩
    · exact p1.elim
  | _ => exact p1.elim
theorem snd_iR2 {a b : Expr} {da db : DE} {p pos : Pos} (hg : Gl X "range") (hm : X.mg "range" = none) (ha : SndE X E a da) (hb : SndE X E b db) (hs : starEach [a, b] X.env = [(false, eval a X.env), (false, eval b X.env)] := by rfl) (hs2 : starEach [b] X.env = [(false, eval b X.env)] := by rfl) :
    SndI X E tg (.Call (.Name "range" p) [a, b] [] pos) (diR2 da db) := by
  refine ⟨fun B => PI.imp (pi_range2 hg hm (pa_cons (ha.h B) (pa_cons (hb.h B) pa_nil (by rw [hs2]; rfl)) (by rw [hs, hs2])) hs hs2) fun σ H R q => ?_⟩
  obtain ⟨W, s, st, p⟩ := q
  refine PstI.seqD st p fun v H1 W1 s1 x l st1 r1 p1 => PstI.seqD st1 p1 fun u H2 W2 s2 y l2 st2 r2 p2 => ?_
  have r1' := r1.mono l2
  generalize frz x = d at r1' p2
  generalize frz y = e at r2 p2
  cases r1' with
  | int i =>
    cases r2 with
    | int j =>
      dsimp only at p2
      split at p2
      · rename_i h
        exact ⟨i, j, rfl, by omega, p2 _ H2 W2 (Wd.Le.refl W2) st2 (rng_len (by omega)) srv_rng⟩
      · exact p2.elim
    | _ => exact p2.elim
  | _ => exact p2.elim
end
end DL
/-! The data layer, part 10: for, while, stores, list methods, comprehensions. -/
namespace DL
open PySem PySem.Spec PyProof.Rows L2

/-! ### for -/
def forD (t : Tg) (body : DS) : List D → DS
  | [], s => .ok .nx s
  | d :: ds, s => match tgSet t d s.ρ with
    | none => .bad
    | some ρ' => (body ⟨ρ', s.M⟩).bind fun f s1 => match f with
      | .nx => forD t body ds s1
      | .ct => forD t body ds s1
      | .bk => .ok .nx s1
      | .rt v => .ok (.rt v) s1
def dFor (t : Tg) (di : DI) (body : DS) : DS := fun s => (di s).bind fun ds s1 => forD t body ds s1
section
variable {K : PySem.W.Frag} {B : Bs} {W W' : Wd} {E : XK} {σ : L2.St} {H : Hp} {s : Sx}
theorem TIr.seq {a : DI} {k : List D → Sx → R Fl} {D : Ends} {Rj : It → Hp → Prop}
    (st : StOk K B W s σ H) (p : PstS K B W E ((a s).bind k) D) (n : ∀ J H1 W1 s1 ds, W.Le W1 → StOk K B W1 s1 σ H1 → ds.length ≤ sizeLine → SrvM K B J ds W1 → PstS K B W1 E (k ds s1) D → Rj J H1) : TIr K B E a σ H Rj := by
  refine ⟨W, s, st, ?_⟩
  cases e : a s with
  | ok x s1 =>
    rw [e] at p
    exact fun b H1 W1 l st1 hz o => n b H1 W1 s1 x l st1 hz o (PstS.mono l p)
  | exc C M => rw [e] at p; exact p
  | bad => rw [e] at p; exact p
theorem TIr.seqE {α β : Type} {ok : Wd → Hp → α → β → Prop} {a : DI} {k : List D → Sx → R α} {Q : β → Hp → Prop} {Rj : It → Hp → Prop}
    (st : StOk K B W s σ H) (p : Pst ok K B W E σ ((a s).bind k) Q) (n : ∀ J H1 W1 s1 ds, W.Le W1 → StOk K B W1 s1 σ H1 → ds.length ≤ sizeLine → SrvM K B J ds W1 → Pst ok K B W1 E σ (k ds s1) Q → Rj J H1) : TIr K B E a σ H Rj := by
  refine ⟨W, s, st, ?_⟩
  cases e : a s with
  | ok x s1 =>
    rw [e] at p
    exact fun b H1 W1 l st1 hz o => n b H1 W1 s1 x l st1 hz o (Pst.mono l p)
  | exc C M => rw [e] at p; exact p
  | bad => rw [e] at p; exact p
end
theorem drop_of {α : Type} {xs : List α} {i : Nat} {d : α} (h : xs[i]? = some d) : xs.drop i = d :: xs.drop (i + 1) := by
  obtain ⟨h1, h2⟩ := List.getElem?_eq_some_iff.mp h
  rw [← h2]; exact List.drop_eq_getElem_cons h1
theorem drop_end {α : Type} {xs : List α} {i : Nat} (h : xs[i]? = none) : xs.drop i = [] := List.drop_eq_nil_of_le (List.getElem?_eq_none_iff.mp h)
section
variable {X : Cx} {E : XK} {iter tg : Expr} {body : List Stmt} {t : Tg} {di : DI} {db : DS} {pos : Pos}
theorem sns_for (hp : PassesOwn (model X.prog X.w) X.A X.env X.xe) (hc : X.calm = true) (hi : SndI X E tg iter di) (hg : SndG X tg t) (hb : SndB X E body db)
    (hs : ∀ x, foldedSetIterable iter X.env x = pure x := by intro _; rfl) : SndS X E (.For tg iter body [] pos) (dFor t di db) := by
  refine ⟨fun B => PS.imp (ps_for hp hc (hi.h B) (hg.h B) (hb.h B) hs) fun D σ H q => ?_⟩
  obtain ⟨W, s, st, p⟩ := q
  refine TIr.seq st p fun J H1 W1 s1 ds l st1 hz srv p1 => ?_
  refine ⟨fun i m σ H => m = ds.length - i ∧ ∃ V sx, W1.Le V ∧ StOk X.K B V sx σ H ∧ PstS X.K B V E (forD t db (ds.drop i) sx) D, ⟨ds.length, by simp, W1, s1, Wd.Le.refl W1, st1, by simpa using p1⟩, ?_⟩
  rintro i m σ2 H2 ⟨rfl, V, sx, lv, stv, pv⟩
  obtain ⟨go, stop⟩ := srv i σ2 H2 V sx lv.m stv
  cases e : ds[i]? with
  | none =>
    rw [drop_end e] at pv
    exact .inl ⟨stop e, pv.next stv⟩
  | some d =>
    obtain ⟨g1, g2⟩ := go d e
    have hlt := (List.getElem?_eq_some_iff.mp e).1
    refine .inr ⟨g1, fun σ' H' => ∃ V sx, W1.Le V ∧ StOk X.K B V sx σ' H' ∧ PstS X.K B V E (forD t db (ds.drop (i + 1)) sx) D, fun σ' H' h => ⟨ds.length - (i + 1), by omega, rfl, h⟩, fun x H' y => ?_⟩
    obtain ⟨V2, l2, st2, r2⟩ := g2 x H' y
    rw [drop_of e] at pv
    simp only [forD] at pv
    cases e1 : tgSet t d sx.ρ with
    | none => rw [e1] at pv; exact pv.elim
    | some ρ' =>
      rw [e1] at pv
      dsimp only at pv
      refine ⟨V2, sx, d, ρ', st2, r2, e1, fun σ3 H3 V3 l3 st3 _ => ⟨V3, _, st3, ?_⟩⟩
      have pv3 := PstS.mono (l2.trans l3) pv
      have lv3 := (lv.trans l2).trans l3
      cases e2 : db ⟨ρ', sx.M⟩ with
      | ok f s4 =>
        rw [e2] at pv3
        cases f with
        | nx => exact fun σ4 H4 V4 l4 st4 => ⟨V4, s4, lv3.trans l4, st4, PstS.mono l4 pv3⟩
        | ct => exact fun σ4 H4 V4 l4 st4 => ⟨V4, s4, lv3.trans l4, st4, PstS.mono l4 pv3⟩
        | bk => exact fun σ4 H4 V4 l4 st4 => pv3 σ4 H4 V4 l4 st4
        | rt v => exact pv3
      | exc C M => rw [e2] at pv3; exact pv3
      | bad => rw [e2] at pv3; exact pv3
end
/-! ### while -/
def whD (t : DT) (body : DS) : Nat → DS
  | 0, _ => .bad
  | n + 1, s => (t s).bind fun c s1 => if c = true then (body s1).bind fun f s2 => match f with
      | .nx => whD t body n s2
      | .ct => whD t body n s2
      | .bk => .ok .nx s2
      | .rt v => .ok (.rt v) s2
    else .ok .nx s1
def dWhile (fuel : Sx → Nat) (t : DT) (body : DS) : DS := fun s => whD t body (fuel s) s
section
variable {X : Cx} {E : XK} {c : Expr} {body : List Stmt} {t : DT} {db : DS} {pos : Pos}
theorem sns_while (fuel : Sx → Nat) (hp : PassesOwn (model X.prog X.w) X.A X.env X.xe) (hc : SndT X E c t) (hb : SndB X E body db) : SndS X E (.While c body [] pos) (dWhile fuel t db) := by
  refine ⟨fun B => PS.imp (ps_while hp (hc.h B) (hb.h B)) fun D σ H q => ?_⟩
  obtain ⟨W, s, st, p⟩ := q
  refine ⟨fun m σ H => ∃ V sx, W.Le V ∧ StOk X.K B V sx σ H ∧ PstS X.K B V E (whD t db m sx) D, ⟨fuel s, W, s, Wd.Le.refl W, st, p⟩, ?_⟩
  rintro m σ1 H1 ⟨V, sx, lv, stv, pv⟩
  cases m with
  | zero => exact pv.elim
  | succ n =>
    simp only [whD] at pv
    refine PstS.seq (ok := okB) stv pv fun k H2 V2 s2 x l2 st2 r2 p2 => ?_
    have e1 : x = k := r2
    subst e1
    cases x with
    | false => exact p2.next st2
    | true =>
      rw [if_pos rfl]
      rw [if_pos rfl] at p2
      refine ⟨fun σ' H' => ∃ V sx, W.Le V ∧ StOk X.K B V sx σ' H' ∧ PstS X.K B V E (whD t db n sx) D, fun σ' H' h => ⟨n, Nat.lt_succ_self n, h⟩, V2, s2, st2, ?_⟩
      have lv2 := lv.trans l2
      cases e2 : db s2 with
      | ok f s4 =>
        rw [e2] at p2
        cases f with
        | nx => exact fun σ4 H4 V4 l4 st4 => ⟨V4, s4, lv2.trans l4, st4, PstS.mono l4 p2⟩
        | ct => exact fun σ4 H4 V4 l4 st4 => ⟨V4, s4, lv2.trans l4, st4, PstS.mono l4 p2⟩
        | bk => exact fun σ4 H4 V4 l4 st4 => p2 σ4 H4 V4 l4 st4
        | rt v => exact p2
      | exc C M => rw [e2] at p2; exact p2
      | bad => rw [e2] at p2; exact p2
end
/-! ### o[i] = v -/
def stIx (s : Sx) (j : Nat) (k x : D) : R Fl := match s.ρ[j]? with
  | some (some (.own ds)) => (match k with
    | .int i => (match ixN ds.length i with
      | some m => .ok .nx ⟨s.ρ.set j (some (.own (ds.set m x))), s.M⟩
      | none => .bad)
    | _ => .bad)
  | some (some (.ownD ks vs)) => (match k with
    | .tup kk => (match allInts kk with
      | some q => if ks.length ≤ lim then .ok .nx ⟨s.ρ.set j (some (.ownD (kPut ks vs q x).1 (kPut ks vs q x).2)), s.M⟩ else .bad
      | none => .bad)
    | _ => .bad)
  | some (some (.val (.obj n))) => (match s.M[n]?, k with
    | some (.lst ds), .int i => (match ixN ds.length i with
      | some m => .ok .nx ⟨s.ρ, s.M.set n (.lst (ds.set m x))⟩
      | none => .bad)
    | _, _ => .bad)
  | _ => .bad
def dSetIx (j : Nat) (a b : DE) : DS := fun s => (a s).bind fun x s1 => if has s1 j = true then (b s1).bind fun k s2 => stIx s2 j (frz k) (frz x) else .bad
theorem pset_or {X : Cx} {t t' : TSet} (h : PSet X t) (h' : PSet X t') : PSet X (fun o i v H Q => t o i v H Q ∨ t' o i v H Q) := by
  intro pins s σ H o i v ov iv u Q I r1 r2 r3 q
  rcases q with q | q
  · exact h pins s σ H o i v ov iv u Q I r1 r2 r3 q
  · exact h' pins s σ H o i v ov iv u Q I r1 r2 r3 q
section
variable {K : PySem.W.Frag} {B : Bs} {W W' : Wd} {E : XK} {σ : L2.St} {H : Hp} {s : Sx}
theorem stIx_ok {j : Nat} {k x : D} {o i v : V} {D : Ends} (st : StOk K B W s σ H) (ho : σ[j]? = some (some o)) (rk : Rep K W i k) (rx : Rep K W v x) (p : PstS K B W E (stIx s j k x) D) :
    rSetL o i v H (fun H' => D.nx σ H') ∨ rSetD o i v H (fun H' => D.nx σ H') := by
  unfold stIx at p
  split at p
  · rename_i ds e1
    obtain ⟨w, hw, a, vs, rfl, h1, h2, h3⟩ := st.slots j _ e1
    rw [ho] at hw; cases hw
    split at p
    · rename_i z
      cases rk
      split at p
      · rename_i m em
        refine .inl ⟨a, vs, z, m, rfl, rfl, h2, by rw [Reps.length h3]; exact em, ?_⟩
        exact p.next (st.writeSlot e1 ho rfl h1 ⟨a, _, rfl, h1, upd_same, h3.set m rx⟩)
      · exact p.elim
    · exact p.elim
  · rename_i ks vs e1
    obtain ⟨w, hw, a, kvs, rfl, h1, h2, h3, h4⟩ := st.slots j _ e1
    rw [ho] at hw; cases hw
    split at p
    · rename_i kk
      split at p
      · rename_i q eq
        split at p
        · rename_i hl
          cases rk with
          | @tup b us _ hb rb =>
            have hb' : H b = some (.tup ((q.map Sum.inl : List Key).map kV)) := by
              rw [st.sub _ _ hb, allInts_ok rb eq, List.map_map]; rfl
            have hlen : kvs.length < sizeLine := by
              have : kvs.length = ks.length := by have := congrArg List.length h3; simpa [keyT] using this
              rw [this, sizeLine_eq]
              have : ks.length ≤ 1000000 := hl
              omega
            obtain ⟨g1, g2⟩ := kPut_ok (x := q) rx h3 h4
            exact .inr ⟨a, _, rfl, DPut.t h2 hb' hlen, p.next (st.writeSlot e1 ho rfl h1 ⟨a, _, rfl, h1, upd_same, g1, g2⟩)⟩
        · exact p.elim
      · exact p.elim
    · exact p.elim
  · rename_i n e1
    obtain ⟨w, hw, hr⟩ := st.slots j _ e1
    rw [ho] at hw; cases hw
    cases hr with
    | @obj a _ hm =>
      split at p
      · rename_i ds z e2
        cases rk
        obtain ⟨a', vs, e3, e4, e5, e6⟩ := st.objs n _ e2
        rw [hm] at e3; cases e3
        split at p
        · rename_i m em
          refine .inl ⟨a, vs, z, m, rfl, rfl, e5, by rw [Reps.length e6]; exact em, ?_⟩
          exact p.next (st.writeObj e2 hm (e6.set m rx))
        · exact p.elim
      · exact p.elim
  · exact p.elim
end
section
variable {X : Cx} {E : XK} {e o i : Expr} {da db : DE} {pos pos' : Pos} {j : Nat}
theorem sns_setIx (hu : X.A.units + 1 < cLine) (he : SndE X E e da) (ho : PE X o (tVar j)) (hi : SndE X E i db) (hs : swapsWithSole [.Subscript o i pos'] e pos.line X.env = pure false := by rfl) (hw : swappedStores [.Subscript o i pos'] e X.env = pure none := by rfl)
    (h1 : (assignEach [.Subscript o i pos'] X.env).map (·.2) = [assign (.Subscript o i pos') X.env] := by rfl)
    (ha : ∀ v, assign (.Subscript o i pos') X.env v = (do
      let ov ← holding [v] (eval o X.env)
      let iv ← holding [v, ov] (eval i X.env)
      standAt pos'
      holding [v, ov, iv] (setItem ov iv v)
      release [v, ov, iv] []) := by intro _; rfl) : SndS X E (.Assign [.Subscript o i pos'] e pos) (dSetIx j da db) := by
  refine ⟨fun B => PS.imp (ps_asg (he.h B) (pg_sub ho (hi.h B) (pset_or set_list (set_dict hu)) ha) hs hw h1) fun D σ H q => ?_⟩
  obtain ⟨W, s, st, p⟩ := q
  refine PstS.seqD st p fun v H1 W1 s1 x l st1 r1 p1 => ?_
  split at p1
  · rename_i hh
    obtain ⟨ov, hov⟩ := st1.has hh
    refine ⟨ov, hov, PstS.seqD st1 p1 fun iv H2 W2 s2 y l2 st2 r2 p2 => ?_⟩
    exact stIx_ok st2 hov r2 (r1.mono l2) p2
  · exact p1.elim
end
/-! ### list methods that change their list -/
/-- the new items and what is handed back -/
abbrev Mf := List D → List D → Option (List D × D)
def MutOk (K : PySem.W.Frag) (r : V → List V → Hp → VK → Prop) (f : Mf) : Prop := ∀ (B : Bs) (W : Wd) (s : Sx) (σ : L2.St) (H : Hp) (a : Addr) (vs xs : List V) (ds es ds' : List D) (d : D) (Q : VK), StOk K B W s σ H → H a = some (.lst vs) → Reps K W vs ds → Reps K W xs es → f ds es = some (ds', d) →
  (∀ vs' v, Reps K W vs' ds' → Rep K W v d → Q v (upd H a (.lst vs'))) → r (.ref a) xs H Q
def mutIx (s : Sx) (j : Nat) (f : Mf) (xs : List D) : R SV := match s.ρ[j]? with
  | some (some (.own ds)) => (match f ds xs with
    | some (ds', d) => .ok (.val d) ⟨s.ρ.set j (some (.own ds')), s.M⟩
    | none => .bad)
  | some (some (.val (.obj n))) => (match s.M[n]? with
    | some (.lst ds) => (match f ds xs with
      | some (ds', d) => .ok (.val d) ⟨s.ρ, s.M.set n (.lst ds')⟩
      | none => .bad)
    | _ => .bad)
  | _ => .bad
def isLst (s : Sx) (j : Nat) : Bool := match s.ρ[j]? with
  | some (some (.own _)) => true
  | some (some (.val (.obj n))) => (match s.M[n]? with
    | some (.lst _) => true
    | _ => false)
  | _ => false
def dMut (f : Mf) (j : Nat) (a : DA) : DE := fun s => if isLst s j = true then (a s).bind fun xs s1 => mutIx s1 j f xs else .bad
section
variable {K : PySem.W.Frag} {B : Bs} {W W' : Wd} {E : XK} {σ : L2.St} {H : Hp} {s : Sx}
theorem isLst_ok {j : Nat} (st : StOk K B W s σ H) (h : isLst s j = true) : ∃ a vs, σ[j]? = some (some (.ref a)) ∧ H a = some (.lst vs) := by
  unfold isLst at h
  split at h
  · rename_i ds e1
    obtain ⟨w, hw, a, vs, rfl, h1, h2, h3⟩ := st.slots j _ e1
    exact ⟨a, vs, hw, h2⟩
  · rename_i n e1
    split at h
    · rename_i ds e2
      obtain ⟨w, hw, hr⟩ := st.slots j _ e1
      obtain ⟨a, vs, e3, e4, e5, e6⟩ := st.objs n _ e2
      cases hr with
      | obj hm =>
        rw [hm] at e3; cases e3
        exact ⟨a, vs, hw, e5⟩
    · cases h
  · cases h
theorem mutIx_ok {r : V → List V → Hp → VK → Prop} {f : Mf} (hf : MutOk K r f) {j : Nat} {xs : List V} {es : List D} {o : V} {Q : VK} (st : StOk K B W s σ H) (ho : σ[j]? = some (some o)) (rx : Reps K W xs es) (p : Pst (okV K) K B W E σ (mutIx s j f es) Q) : r o xs H Q := by
  unfold mutIx at p
  split at p
  · rename_i ds e1
    obtain ⟨w, hw, a, vs, rfl, h1, h2, h3⟩ := st.slots j _ e1
    rw [ho] at hw; cases hw
    split at p
    · rename_i ds' d ef
      refine hf B W s σ H a vs xs ds es ds' d Q st h2 h3 rx ef fun vs' v r1 r2 => ?_
      exact p _ _ W (Wd.Le.refl W) (st.writeSlot e1 ho rfl h1 ⟨a, _, rfl, h1, upd_same, r1⟩) r2
    · exact p.elim
  · rename_i n e1
    obtain ⟨w, hw, hr⟩ := st.slots j _ e1
    rw [ho] at hw; cases hw
    split at p
    · rename_i ds e2
      obtain ⟨a, vs, e3, e4, e5, e6⟩ := st.objs n _ e2
      cases hr with
      | obj hm =>
        rw [hm] at e3; cases e3
        split at p
        · rename_i ds' d ef
          refine hf B W s σ H a vs xs ds es ds' d Q st e5 e6 rx ef fun vs' v r1 r2 => ?_
          exact p _ _ W (Wd.Le.refl W) (st.writeObj e2 hm r1) r2
        · exact p.elim
    · exact p.elim
  · exact p.elim
end
def fAppend : Mf := fun ds xs => match xs with
  | [x] => if ds.length < lim then some (ds ++ [x], .non) else none
  | _ => none
def fExtend : Mf := fun ds xs => match xs with
  | [.lst zs] => if ds.length + zs.length ≤ lim then some (ds ++ zs, .non) else none
  | _ => none
def fPop : Mf := fun ds xs => match xs with
  | [] => (ds[ds.length - 1]?).map fun d => (ds.dropLast, d)
  | _ => none
def fPopAt : Mf := fun ds xs => match xs with
  | [.int i] => if -1000000 ≤ i ∧ i ≤ 1000000 then (seqIndex? i ds.length).bind fun k => (ds[k]?).map fun d => (ds.eraseIdx k, d) else none
  | _ => none
section
variable {K : PySem.W.Frag}
theorem mut_append : MutOk K rAppend fAppend := by
  intro B W s σ H a vs xs ds es ds' d Q st h r rx e k
  cases rx with
  | nil => exact nn e
  | cons r1 rr =>
    cases rr with
    | cons _ _ => exact nn e
    | nil =>
      simp only [fAppend] at e
      split at e
      · rename_i hl
        cases e
        exact ⟨a, vs, _, rfl, rfl, h, by rw [Reps.length r, sizeLine_eq]; have : ds.length < 1000000 := hl; omega, k _ _ (r.append (.cons r1 .nil)) .non⟩
      · cases e
theorem mut_extend : MutOk K rExtend fExtend := by
  intro B W s σ H a vs xs ds es ds' d Q st h r rx e k
  cases rx with
  | nil => exact nn e
  | cons r1 rr =>
    cases rr with
    | cons _ _ => cases r1 <;> exact nn e
    | nil =>
      cases r1 with
      | lst h1 r1 =>
        simp only [fExtend] at e
        split at e
        · rename_i hl
          cases e
          exact ⟨a, _, vs, _, rfl, rfl, h, st.sub _ _ h1, by rw [Reps.length r, Reps.length r1]; exact lim_line hl, k _ _ (r.append r1) .non⟩
        · cases e
      | _ => exact nn e
theorem mut_pop : MutOk K rPop fPop := by
  intro B W s σ H a vs xs ds es ds' d Q st h r rx e k
  cases rx with
  | cons _ _ => exact nn e
  | nil =>
    simp only [fPop] at e
    obtain ⟨z, e1, e2⟩ := Option.map_eq_some_iff.mp e
    cases e2
    obtain ⟨v, h1, h2⟩ := Reps.get r e1
    exact ⟨a, vs, v, rfl, rfl, h, by rw [Reps.length r]; exact h1, k _ _ r.dropLast h2⟩
theorem mut_popAt : MutOk K rPopAt fPopAt := by
  intro B W s σ H a vs xs ds es ds' d Q st h r rx e k
  cases rx with
  | nil => exact nn e
  | cons r1 rr =>
    cases rr with
    | cons _ _ => cases r1 <;> exact nn e
    | nil =>
      cases r1 with
      | int i =>
        simp only [fPopAt] at e
        split at e
        · rename_i hb
          obtain ⟨m, e1, e2⟩ := Option.bind_eq_some_iff.mp e
          obtain ⟨z, e3, e4⟩ := Option.map_eq_some_iff.mp e2
          cases e4
          obtain ⟨v, h1, h2⟩ := Reps.get r e3
          exact ⟨a, vs, i, m, v, rfl, rfl, h, by omega, by omega, by rw [Reps.length r]; exact e1, h1, k _ _ (r.eraseIdx m) h2⟩
        · cases e
      | _ => exact nn e
end
section
variable {X : Cx} {E : XK} {o e : Expr} {es : List Expr} {da : DA} {j : Nat} {name : Str} {apos cpos : Pos} {id : String} {r : V → List V → Hp → VK → Prop} {f : Mf}
theorem snd_mut (hf : MutOk X.K r f) (slot : Slot "list" name id) (hty : typeOf (.builtin id) = pure (.type "method_descriptor")) (hm : MtR X id r) (ho : PE X o (tVar j)) (ha : SndA X E (e :: es) da)
    (hbase : attributeBase o name X.env (eval o X.env) = eval o X.env := by rfl)
    (hfew : ((backTo cpos (starEach (e :: es) X.env)).all (fun x => !x.1) && (backToKw cpos (keywordEach [] X.env)).all (fun x => x.1.isSome)
      && decide ((e :: es).length + ([] : List Keyword).length + (if ([] : List Keyword).isEmpty then 0 else 1) < 30)) = true := by rfl)
    (hline : (apos.endLine == cpos.line) = true := by rfl) (hs : starEach (e :: es) X.env = (false, eval e X.env) :: starEach es X.env := by rfl) (hplain : (backTo cpos (starEach es X.env)).any (·.1) = false := by rfl) :
    SndE X E (.Call (.Attribute o name apos) (e :: es) [] cpos) (dMut f j da) := by
  refine ⟨fun B => PE.imp (pe_bm PySem.F.plainAttrs_list slot hty hm ho (ha.h B) hbase hfew hline hs hplain) fun σ H Q q => ?_⟩
  obtain ⟨W, s, st, p⟩ := q
  unfold dMut at p
  split at p
  · rename_i hl
    obtain ⟨a, vs, h1, h2⟩ := isLst_ok st hl
    refine ⟨_, h1, .inl ⟨rfl, _, SqL.of h2⟩, Pst.seq st p fun us H1 W1 s1 x l st1 r1 p1 => ?_⟩
    exact mutIx_ok hf st1 h1 r1 p1
  · exact p.elim
theorem snd_mut0 (hf : MutOk X.K r f) (slot : Slot "list" name id) (hty : typeOf (.builtin id) = pure (.type "method_descriptor")) (hm : MtR X id r) (ho : PE X o (tVar j))
    (hbase : attributeBase o name X.env (eval o X.env) = eval o X.env := by rfl) (hline : (apos.endLine == cpos.line) = true := by rfl) :
    SndE X E (.Call (.Attribute o name apos) [] [] cpos) (dMut f j dNil) := by
  refine ⟨fun B => PE.imp (pe_bm0 PySem.F.plainAttrs_list slot hty hm ho hbase hline) fun σ H Q q => ?_⟩
  obtain ⟨W, s, st, p⟩ := q
  unfold dMut at p
  split at p
  · rename_i hl
    obtain ⟨a, vs, h1, h2⟩ := isLst_ok st hl
    exact ⟨_, h1, .inl ⟨rfl, _, SqL.of h2⟩, mutIx_ok hf st h1 .nil p⟩
  · exact p.elim
end
end DL
/-! The data layer, part 11: comprehensions. -/
namespace DL
open PySem PySem.Spec PyProof.Rows L2

def wipeD (ρ : List (Option SV)) : List Nat → List (Option SV)
  | [] => ρ
  | v :: vs => (wipeD ρ vs).set v none
theorem wipeD_length (ρ : List (Option SV)) : ∀ vs : List Nat, (wipeD ρ vs).length = ρ.length
  | [] => rfl
  | v :: vs => by unfold wipeD; rw [List.length_set, wipeD_length ρ vs]
theorem wipeD_some {ρ : List (Option SV)} {i : Nat} {x : SV} : ∀ {vs : List Nat}, (wipeD ρ vs)[i]? = some (some x) → ρ[i]? = some (some x) ∧ i ∉ vs
  | [], h => ⟨h, by simp⟩
  | v :: vs, h => by
    unfold wipeD at h
    by_cases hi : v = i
    · subst hi
      by_cases hv : v < (wipeD ρ vs).length
      · rw [List.getElem?_set_self hv] at h; cases h
      · rw [List.getElem?_eq_none (by simpa using hv)] at h; cases h
    · rw [List.getElem?_set_ne hi] at h
      obtain ⟨h1, h2⟩ := wipeD_some h
      exact ⟨h1, by simp only [List.mem_cons, not_or]; exact ⟨fun e => hi e.symm, h2⟩⟩
theorem wipe_in {σ : L2.St} {j : Nat} : ∀ {vs : List Nat}, j ∈ vs → (wipe σ vs)[j]? = if j < σ.length then some none else none
  | [], h => by simp at h
  | v :: vs, h => by
    unfold wipe
    by_cases e : v = j
    · subst e
      by_cases hl : v < σ.length
      · rw [List.getElem?_set_self (by rw [wipe_length]; exact hl), if_pos hl]
      · rw [List.getElem?_eq_none (by rw [List.length_set, wipe_length]; omega), if_neg hl]
    · rw [List.getElem?_set_ne e]
      refine wipe_in ?_
      rcases List.mem_cons.mp h with h | h
      · exact absurd h.symm e
      · exact h
theorem wipe_eq {σ σ' : L2.St} {vs : List Nat} (h : ∀ j, j ∉ vs → σ'[j]? = σ[j]?) (hl : σ'.length = σ.length) : wipe σ' vs = wipe σ vs := by
  apply List.ext_getElem?
  intro j
  by_cases e : j ∈ vs
  · rw [wipe_in e, wipe_in e, hl]
  · rw [wipe_out e, wipe_out e, h j e]
section
variable {K : PySem.W.Frag} {B : Bs} {W W' : Wd} {E : XK} {σ σ' : L2.St} {H H' : Hp} {s : Sx}
theorem StOk.agree (h : StOk K B W s σ H) (ha : ∀ (j : Nat) (sv : SV), s.ρ[j]? = some (some sv) → σ'[j]? = σ[j]?) (hl : σ'.length = σ.length) : StOk K B W s σ' H :=
  ⟨h.sub, h.fl, h.lh, fun i sv e => by
    obtain ⟨v, h1, h2⟩ := h.slots i sv e
    exact ⟨v, (ha i sv e).trans h1, h2⟩, h.objs, h.keep, h.fext, h.fnew, h.mmx, h.mml, h.ob, hl.trans h.len, h.hold⟩
theorem StOk.wipeL (h : StOk K B W s σ H) : ∀ vs : List Nat, StOk K B W ⟨wipeD s.ρ vs, s.M⟩ σ H
  | [] => h
  | v :: vs => (StOk.wipeL h vs).forget v
theorem StOk.wiped {vs : List Nat} (h : StOk K B W ⟨wipeD s.ρ vs, s.M⟩ σ H) : StOk K B W ⟨wipeD s.ρ vs, s.M⟩ (wipe σ vs) H :=
  h.agree (fun j sv e => wipe_out (wipeD_some e).2) (wipe_length _ _)
/-- what is held back is changed -/
theorem StOk.writeHold (h : StOk K B W s σ H) {a : Addr} {o o' : HO} {hs : List (Addr × HO)} (e : W.hold = (a, o) :: hs) (hn : ∀ p, p ∈ hs → p.1 ≠ a) (hnt : NT o' = true := by rfl) :
    StOk K B { W with hold := (a, o') :: hs } s σ (upd H a o') := by
  obtain ⟨ha', ho'⟩ := h.hold (a, o) (by rw [e]; exact List.mem_cons_self)
  have ha : W.lab a = some (.hold, 0) := ha'
  have nl : ∀ b r k, W.lab b = some (r, k) → r ≠ .hold → b ≠ a := fun b r k e1 q z => by subst z; rw [ha] at e1; cases e1; exact q rfl
  have nF : ∀ b u, W.F b = some u → b ≠ a := fun b u e1 q => by subst q; have := h.fl b u e1; rw [ha] at this; cases this
  have lm : W.Lm { W with hold := (a, o') :: hs } := ⟨fun _ _ e => e, fun _ _ e => e⟩
  refine ⟨fun b u e1 => ?_, h.fl, fun b z e1 => ?_, fun i sv e1 => ?_, fun n mo e1 => ?_, fun b u e1 => ?_, h.fext, h.fnew, h.mmx, h.mml, fun b e1 => ?_, h.len, fun p hp => ?_⟩
  · rw [upd_ne (nF b u e1)]; exact h.sub b u e1
  · exact upd_lh hnt (h.lh b z e1)
  · obtain ⟨v, h1, h2⟩ := h.slots i sv e1
    exact ⟨v, h1, h2.keepM lm fun _ b hb => ⟨hb, upd_ne (nl b _ _ hb (by simp))⟩⟩
  · exact (h.objs n mo e1).keepM lm fun b k hb => ⟨hb, upd_ne (nl b _ _ hb (by simp))⟩
  · rcases h.keep b u e1 with q | ⟨q1, q2⟩
    · exact .inl q
    · refine .inr ⟨q1, ?_⟩
      rw [upd_ne]
      · exact q2
      · rintro rfl; rw [ha] at q1; cases q1
  · obtain ⟨u, q⟩ := h.ob b e1
    exact upd_grow b u q
  · rcases List.mem_cons.mp hp with rfl | hp
    · exact ⟨ha, upd_same⟩
    · obtain ⟨h1, h2⟩ := h.hold p (by rw [e]; exact List.mem_cons_of_mem _ hp)
      exact ⟨h1, by rw [upd_ne (hn p hp)]; exact h2⟩
/-- a new list that is held back while it is filled -/
theorem StOk.newHold (h : StOk K B W s σ H) {a : Addr} {o : HO} (hp : H a = none) (hnt : NT o = true := by rfl) : ∃ V, W.Lm V ∧ V.hold = (a, o) :: W.hold ∧ StOk K B V s σ (upd H a o) ∧ ∀ p, p ∈ W.hold → p.1 ≠ a := by
  obtain ⟨l, g⟩ := h.made (o := o) hp hnt
  obtain ⟨l2, g2⟩ := g.park (a := a) (o := o) updl_same upd_same
  refine ⟨_, l.m.trans l2, rfl, g2, fun p hq z => ?_⟩
  obtain ⟨_, q⟩ := h.hold p hq
  rw [z, hp] at q; cases q
end
mutual
theorem tgSet_length : ∀ {t : Tg} {d : D} {ρ ρ' : List (Option SV)}, tgSet t d ρ = some ρ' → ρ'.length = ρ.length
  | .nm i, d, ρ, ρ', h => by simp only [tgSet, Option.some.injEq] at h; subst h; simp
  | .tp ts, .tup ds, ρ, ρ', h => tgsSet_length (t := ts) (ds := ds) (by simpa only [tgSet] using h)
  | .tp ts, .non, _, _, h => by simp [tgSet] at h
  | .tp ts, .bl _, _, _, h => by simp [tgSet] at h
  | .tp ts, .int _, _, _, h => by simp [tgSet] at h
  | .tp ts, .str _, _, _, h => by simp [tgSet] at h
  | .tp ts, .lst _, _, _, h => by simp [tgSet] at h
  | .tp ts, .dct _ _, _, _, h => by simp [tgSet] at h
  | .tp ts, .scr _, _, _, h => by simp [tgSet] at h
  | .tp ts, .obj _, _, _, h => by simp [tgSet] at h
  | .tp ts, .exc _, _, _, h => by simp [tgSet] at h
  | .tp ts, .fn _, _, _, h => by simp [tgSet] at h
theorem tgsSet_length : ∀ {t : List Tg} {ds : List D} {ρ ρ' : List (Option SV)}, tgsSet t ds ρ = some ρ' → ρ'.length = ρ.length
  | [], [], ρ, ρ', h => by simp only [tgsSet, Option.some.injEq] at h; subst h; rfl
  | t :: ts, d :: ds, ρ, ρ', h => by
    simp only [tgsSet] at h
    obtain ⟨ρ1, h1, h2⟩ := Option.bind_eq_some_iff.mp h
    rw [tgsSet_length h2, tgSet_length h1]
  | [], _ :: _, _, _, h => by simp [tgsSet] at h
  | _ :: _, [], _, _, h => by simp [tgsSet] at h
end
def R.nox {α : Type} (r : R α) : R α := match r with
  | .exc _ _ => .bad
  | r => r
def compD (own : List Nat) (t : Tg) (c : DT) (e : DE) : List D → List D → Sx → R (List D)
  | [], acc, s => .ok acc ⟨wipeD s.ρ own, s.M⟩
  | d :: ds, acc, s => match tgSet t d (wipeD s.ρ own) with
    | none => .bad
    | some ρ' => (c ⟨ρ', s.M⟩).nox.bind fun b s1 => if b = true then (e s1).nox.bind fun y s2 => compD own t c e ds (acc ++ [frz y]) s2 else compD own t c e ds acc s1
def dComp (own : List Nat) (t : Tg) (di : DI) (c : DT) (e : DE) : DE := fun s => (di s).bind fun ds s1 => (compD own t c e ds [] s1).nox.bind fun acc s2 => .ok (.own acc) s2
def tTrue : DT := fun s => .ok true s
abbrev E0' : XK := fun _ _ _ => False
def PC {α : Type} (Qf : α → Sx → Prop) (r : R α) : Prop := match r with
  | .ok a s => Qf a s
  | _ => False
theorem PC.bind {α β : Type} {Qf : β → Sx → Prop} {r : R α} {k : α → Sx → R β} (h : PC Qf (r.nox.bind k)) : ∃ a s, r = .ok a s ∧ PC Qf (k a s) := by
  cases r with
  | ok a s => exact ⟨a, s, rfl, h⟩
  | exc C M => exact h.elim
  | bad => exact h.elim
structure SndTs (X : Cx) (E : XK) (ifs : List Expr) (dt : DT) : Prop where
  h : ∀ B, PTs X ifs (TG okB X.K B E dt)
theorem PTs.imp {X : Cx} {e : List Expr} {t t' : TT} (h : PTs X e t) (i : ∀ σ H Q, t' σ H Q → t σ H Q) : PTs X e t' := ⟨fun pins s σ H Q I q => h.run pins s σ H Q I (i σ H Q q)⟩
section
variable {X : Cx} {E : XK}
theorem snts_nil : SndTs X E [] tTrue := ⟨fun B => PTs.imp pts_nil fun σ H Q q => by
  obtain ⟨W, s, st, p⟩ := q
  exact p true H W (Wd.Le.refl W) st rfl⟩
theorem snts_one {c : Expr} {t : DT} (h : SndT X E c t) : SndTs X E [c] t := ⟨fun B => pts_one (h.h B)⟩
end
section
variable {X : Cx} {E : XK} {elt tg iter : Expr} {ifs : List Expr} {scope : Scope} {own : List (Str × Nat)} {pos : Pos} {di : DI} {t : Tg} {c : DT} {e : DE}
/-- the reading of a comprehension -/
theorem comp_read {B : Bs} {σ : L2.St} {H : Hp} {Q : VK} (hsl : ∀ j, j ∈ t.slots → j ∈ own.map (·.2)) (q : TG (okV X.K) X.K B E (dComp (own.map (·.2)) t di c e) σ H Q) :
    tLc (TIr X.K B E di) (TGt X.K B t) (TG okB X.K B E0' c) (TG (okV X.K) X.K B E0' e) (own.map (·.2)) σ H Q := by
  obtain ⟨W, s, st, p⟩ := q
  generalize own.map (·.2) = vs at hsl p ⊢
  refine TIr.seqE st p fun J H1 W1 s1 ds l st1 hz srv p1 => ?_
  intro D hD
  have hn : ∀ p, p ∈ W1.hold → p.1 ≠ D := fun p hq z => by
    obtain ⟨_, q⟩ := st1.hold p hq
    rw [z, hD] at q; cases q
  -- the end
  let Qf : List DL.D → Sx → Prop := fun acc s2 => ∀ H' V' us, W1.Lm V' → V'.hold = (D, .lst us) :: W1.hold → StOk X.K B V' ⟨wipeD s2.ρ vs, s2.M⟩ σ H' → Reps X.K V' us acc → Q (.ref D) H'
  have p2 : PC Qf (compD vs t c e ds [] s1) := by
    cases e1 : compD vs t c e ds [] s1 with
    | exc C M => rw [e1] at p1; exact p1.elim
    | bad => rw [e1] at p1; exact p1.elim
    | ok acc s2 =>
      rw [e1] at p1
      intro H' V' us lm hh st' r'
      have hw : ∀ (ds acc0 : List DL.D) (s0 : Sx) (acc : List DL.D) (s2 : Sx), compD vs t c e ds acc0 s0 = .ok acc s2 → ∃ ρ, s2.ρ = wipeD ρ vs := by
        intro ds
        induction ds with
        | nil => intro acc0 s0 acc s2 h; simp only [compD] at h; cases h; exact ⟨_, rfl⟩
        | cons d ds ih =>
          intro acc0 s0 acc s2 h
          simp only [compD] at h
          cases e2 : tgSet t d (wipeD s0.ρ vs) with
          | none => rw [e2] at h; cases h
          | some ρ' =>
            rw [e2] at h
            dsimp only at h
            cases e3 : c ⟨ρ', s0.M⟩ with
            | exc C M => rw [e3] at h; cases h
            | bad => rw [e3] at h; cases h
            | ok b s1 =>
              rw [e3] at h
              change (if b = true then (e s1).nox.bind fun y s2 => compD vs t c e ds (acc0 ++ [frz y]) s2 else compD vs t c e ds acc0 s1) = _ at h
              split at h
              · cases e4 : e s1 with
                | exc C M => rw [e4] at h; cases h
                | bad => rw [e4] at h; cases h
                | ok y s3 => rw [e4] at h; exact ih _ _ _ _ h
              · exact ih _ _ _ _ h
      obtain ⟨ρ, hρ⟩ := hw _ _ _ _ _ e1
      have ww : ∀ (ρ : List (Option SV)), wipeD (wipeD ρ vs) vs = wipeD ρ vs := by
        intro ρ
        apply List.ext_getElem?
        intro j
        have key : ∀ (us : List Nat) (τ : List (Option SV)), (wipeD τ us)[j]? = if j ∈ us then (if j < τ.length then some none else none) else τ[j]? := by
          intro us
          induction us with
          | nil => intro τ; simp [wipeD]
          | cons v us ih =>
            intro τ
            unfold wipeD
            by_cases ev : v = j
            · subst ev
              rw [if_pos (by simp)]
              by_cases hl : v < τ.length
              · rw [List.getElem?_set_self (by rw [wipeD_length]; exact hl), if_pos hl]
              · rw [List.getElem?_eq_none (by rw [List.length_set, wipeD_length]; omega), if_neg hl]
            · rw [List.getElem?_set_ne ev, ih]
              have : (j ∈ v :: us) ↔ j ∈ us := by simp [Ne.symm ev]
              simp only [this]
        rw [key, key]
        by_cases hj : j ∈ vs
        · simp [hj, wipeD_length]
        · simp [hj]
      rw [hρ, ww, ← hρ] at st'
      obtain ⟨g, hv⟩ := st'.unpark hh hn
      have lz : V'.Lm { V' with lab := updl V'.lab D (some (.res, 0)), hold := W1.hold } := ⟨fun _ _ e => e, fun _ _ e => e⟩
      exact p1 (.ref D) H' _ ((lm.trans lz).le rfl) g ⟨D, us, rfl, updl_same, hv, r'.monoM lz⟩
  obtain ⟨V0, lm0, hh0, st0, _⟩ := st1.newHold (o := .lst []) hD
  refine ⟨fun i m H => m = ds.length - i ∧ ∃ V sx us acc, W1.Lm V ∧ V.hold = (D, .lst us) :: W1.hold ∧ StOk X.K B V ⟨wipeD sx.ρ vs, sx.M⟩ σ H ∧ Reps X.K V us acc ∧ acc.length ≤ i ∧ PC Qf (compD vs t c e (ds.drop i) acc sx),
    ⟨ds.length, by simp, V0, s1, [], [], lm0, hh0, st0.wipeL vs, .nil, Nat.zero_le _, by simpa using p2⟩, ?_⟩
  rintro i m H2 ⟨rfl, V, sx, us, acc, lm, hh, stv, ra, hla, pc⟩
  have stw := stv.wiped
  obtain ⟨go, stop⟩ := srv i (wipe σ vs) H2 V _ lm stw
  cases e0 : ds[i]? with
  | none =>
    rw [drop_end e0] at pc
    refine .inl ⟨stop e0, ?_⟩
    have pc' : Qf acc ⟨wipeD sx.ρ vs, sx.M⟩ := pc
    exact pc' H2 V us lm hh (stv.wipeL vs) ra
  | some d =>
    obtain ⟨g1, g2⟩ := go d e0
    have hlt := (List.getElem?_eq_some_iff.mp e0).1
    refine .inr ⟨g1, fun H' => ∃ V sx us acc, W1.Lm V ∧ V.hold = (D, .lst us) :: W1.hold ∧ StOk X.K B V ⟨wipeD sx.ρ vs, sx.M⟩ σ H' ∧ Reps X.K V us acc ∧ acc.length ≤ i + 1 ∧ PC Qf (compD vs t c e (ds.drop (i + 1)) acc sx), fun H' h => ⟨ds.length - (i + 1), by omega, rfl, h⟩, fun x H' y => ?_⟩
    obtain ⟨V2, l2, st2, r2⟩ := g2 x H' y
    rw [drop_of e0] at pc
    simp only [compD] at pc
    cases e1 : tgSet t d (wipeD sx.ρ vs) with
    | none => rw [e1] at pc; exact pc.elim
    | some ρ' =>
      rw [e1] at pc
      dsimp only at pc
      refine ⟨V2, _, d, ρ', st2, r2, e1, fun σ3 H3 V3 l3 st3 stay => ?_⟩
      have hlen : σ3.length = σ.length := by
        rw [st3.len]
        show ρ'.length = _
        rw [tgSet_length e1, wipeD_length]
        have := stv.len
        simp only [wipeD_length] at this
        exact this.symm
      have hweq : wipe σ3 vs = wipe σ vs := by
        rw [wipe_eq (σ' := σ3) (σ := wipe σ vs) (fun j hj => stay j fun z => hj (hsl j z)) (by rw [hlen, wipe_length])]
        exact wipe_eq (fun j hj => wipe_out hj) (wipe_length _ _)
      -- back from the block
      have back : ∀ (V4 : Wd) (s4 : Sx) (H4 : Hp), StOk X.K B V4 s4 σ3 H4 → StOk X.K B V4 ⟨wipeD s4.ρ vs, s4.M⟩ σ H4 := fun V4 s4 H4 st4 => by
        refine (st4.wipeL vs).agree (fun j sv ej => ?_) hlen.symm
        have hj := (wipeD_some ej).2
        have q : (wipe σ3 vs)[j]? = (wipe σ vs)[j]? := by rw [hweq]
        rw [wipe_out hj, wipe_out hj] at q
        exact q.symm
      refine ⟨hweq, V3, _, st3, ?_⟩
      obtain ⟨b, s4, e2, pc2⟩ := PC.bind pc
      rw [e2]
      intro b' H4 V4 l4 st4 eb
      have eb' : b = b' := eb
      subst eb'
      have l24 := (l2.trans l3).trans l4
      cases b with
      | false =>
        rw [if_neg Bool.false_ne_true]
        rw [if_neg Bool.false_ne_true] at pc2
        exact ⟨V4, s4, us, acc, lm.trans l24.m, by rw [l24.hold]; exact hh, back V4 s4 H4 st4, ra.mono l24, Nat.le_succ_of_le hla, pc2⟩
      | true =>
        rw [if_pos rfl]
        rw [if_pos rfl] at pc2
        refine ⟨V4, s4, st4, ?_⟩
        obtain ⟨y, s5, e3, pc3⟩ := PC.bind pc2
        rw [e3]
        intro yv H5 V5 l5 st5 oy
        obtain ⟨V6, l6, st6, ry⟩ := st5.freeze (r := .res) (fun z => z) oy
        have l26 := (l24.trans l5).trans l6
        have hh6 : V6.hold = (D, .lst us) :: W1.hold := by rw [l26.hold]; exact hh
        obtain ⟨_, hD6⟩ := st6.hold (D, .lst us) (by rw [hh6]; exact List.mem_cons_self)
        refine ⟨us, hD6, ?_, ?_⟩
        · rw [Reps.length ra]; omega
        · have st7 := (back V6 s5 H5 st6).writeHold (o' := .lst (us ++ [yv])) hh6 hn
          have lz : V6.Lm { V6 with hold := (D, .lst (us ++ [yv])) :: W1.hold } := ⟨fun _ _ e => e, fun _ _ e => e⟩
          refine ⟨{ V6 with hold := (D, .lst (us ++ [yv])) :: W1.hold }, s5, us ++ [yv], acc ++ [frz y], (lm.trans l26.m).trans lz, rfl, st7, ?_, by simp; omega, pc3⟩
          exact ((ra.mono l26).append (.cons ry .nil)).monoM lz
theorem snd_comp (hc : X.calm = true) (hN : X.N.Nodup) (hi : SndI X E tg iter di) (ok : BlkOk X.N X.env.scope scope own) (hsl : ∀ j, j ∈ t.slots → j ∈ own.map (·.2))
    (hg : ∀ (s : Shared) (H : Hp) (C : Addr) (cl : List (Str × Addr)) (fp : List Addr), SndG (X.blk s H scope (compEnvC scope cl C X.env) fp) tg t) (ht : ∀ (s : Shared) (H : Hp) (C : Addr) (cl : List (Str × Addr)) (fp : List Addr), SndTs (X.blk s H scope (compEnvC scope cl C X.env) fp) E0' ifs c)
    (he : ∀ (s : Shared) (H : Hp) (C : Addr) (cl : List (Str × Addr)) (fp : List Addr), SndE (X.blk s H scope (compEnvC scope cl C X.env) fp) E0' elt e) (hs : ∀ x, foldedSetIterable iter X.env x = pure x := by intro _; rfl) :
    SndE X E (.ListComp elt [⟨tg, iter, ifs, 0⟩] scope pos) (dComp (own.map (·.2)) t di c e) :=
  ⟨fun B => PE.imp (pe_lc (te := TG (okV X.K) X.K B E0' e) (tt := TG okB X.K B E0' c) (g := TGt X.K B t) hc hN (hi.h B) ok (fun s H C cl fp => (hg s H C cl fp).h B) (fun s H C cl fp => (ht s H C cl fp).h B) (fun s H C cl fp => (he s H C cl fp).h B) hs) fun σ H Q q => comp_read hsl q⟩
theorem sns_setComp {i : Nat} {y : Str} {py spos : Pos} (hc : X.calm = true) (hN : X.N.Nodup) (hy : X.N[i]? = some y) (hyl : X.env.scope.names.lookup y = some .local)
    (hsw : swapsWith (.ListComp elt [⟨tg, iter, ifs, 0⟩] scope pos) (some (.Name y py)) spos.line X.env = pure true) (hi : SndI X E tg iter di) (ok : BlkOk X.N X.env.scope scope own) (hsl : ∀ j, j ∈ t.slots → j ∈ own.map (·.2))
    (hg : ∀ (s : Shared) (H : Hp) (C : Addr) (cl : List (Str × Addr)) (fp : List Addr), SndG (X.blk s H scope (compEnvC scope cl C X.env) fp) tg t) (ht : ∀ (s : Shared) (H : Hp) (C : Addr) (cl : List (Str × Addr)) (fp : List Addr), SndTs (X.blk s H scope (compEnvC scope cl C X.env) fp) E0' ifs c)
    (he : ∀ (s : Shared) (H : Hp) (C : Addr) (cl : List (Str × Addr)) (fp : List Addr), SndE (X.blk s H scope (compEnvC scope cl C X.env) fp) E0' elt e) (hs : ∀ x, foldedSetIterable iter X.env x = pure x := by intro _; rfl) :
    SndS X E (.Assign [.Name y py] (.ListComp elt [⟨tg, iter, ifs, 0⟩] scope pos) spos) (dSet i (dComp (own.map (·.2)) t di c e)) := by
  refine ⟨fun B => PS.imp (ps_setLc (te := TG (okV X.K) X.K B E0' e) (tt := TG okB X.K B E0' c) (g := TGt X.K B t) hc hN hy hyl hsw (hi.h B) ok (fun s H C cl fp => (hg s H C cl fp).h B) (fun s H C cl fp => (ht s H C cl fp).h B) (fun s H C cl fp => (he s H C cl fp).h B) hs) fun D σ H q => ?_⟩
  obtain ⟨W, s, st, p⟩ := q
  refine comp_read hsl ?_
  refine PstS.seq (ok := okV X.K) st p fun v H1 W1 s1 x l st1 r1 p1 => ?_
  obtain ⟨W2, l2, st2⟩ := st1.setRes (i := i) r1
  exact p1 _ H1 W2 l2 st2
end
end DL
/-! The data layer, part 12: defs, calls, raise. -/
namespace DL
open PySem PySem.Spec PyProof.Rows L2

def initS (n : Nat) (ds : List D) (M : List MO) : Sx := ⟨(ds.map fun d => some (.val d)) ++ List.replicate (n - ds.length) none, M⟩
abbrev Run := List D → List MO → R SV
def runFn (n : Nat) (body : DS) : Run := fun ds M => match body (initS n ds M) with
  | .ok .nx s => .ok (.val .non) ⟨[], s.M⟩
  | .ok (.rt sv) s => .ok sv ⟨[], s.M⟩
  | .ok _ _ => .bad
  | .exc C M => .exc C M
  | .bad => .bad
def spD (K : PySem.W.Frag) (run : Run) (np : Nat) : Sp := fun vs H Q E => ∃ (B : Bs) (W : Wd) (M : List MO) (ds : List D), vs.length = np ∧ StOk K B W ⟨[], M⟩ [] H ∧ Reps K W vs ds ∧ Pst (okV K) K B W E [] (run ds M) Q

/-! ### worlds at a call -/
def objL (l : Option (Root × Nat)) : Option (Root × Nat) := match l with
  | some (.obj n, k) => some (.obj n, k)
  | _ => none
def ent (W : Wd) : Wd := { F := W.F, mm := W.mm, lab := fun a => objL (W.lab a), hold := [] }
def entB (W : Wd) (H : Hp) : Bs := ⟨H, W.F, W.mm, fun a => ∃ n k, W.lab a = some (.obj n, k)⟩
theorem objL_some {l : Option (Root × Nat)} {x : Root × Nat} (h : objL l = some x) : l = some x ∧ ∃ n k, x = (.obj n, k) := by
  unfold objL at h
  split at h
  · cases h; exact ⟨rfl, _, _, rfl⟩
  · cases h
theorem objL_none {l : Option (Root × Nat)} (h : ¬ ∃ n k, l = some (.obj n, k)) : objL l = none := by
  cases e : objL l with
  | none => rfl
  | some x =>
    obtain ⟨h1, n, k, rfl⟩ := objL_some e
    exact absurd ⟨n, k, h1⟩ h
theorem objL_obj {n k : Nat} : objL (some (.obj n, k)) = some (.obj n, k) := rfl
/-- the labels behind a call: the caller's, where he has one of his own -/
def mergeL (l l' : Option (Root × Nat)) : Option (Root × Nat) := match l with
  | none => l'
  | some (.obj _, _) => l'
  | some x => some x
theorem mergeL_free {l l' : Option (Root × Nat)} (h : l = none ∨ ∃ n k, l = some (.obj n, k)) : mergeL l l' = l' := by
  rcases h with rfl | ⟨n, k, rfl⟩ <;> rfl
theorem mergeL_own {l l' : Option (Root × Nat)} {x : Root × Nat} (h : l = some x) (hn : ∀ n k, x ≠ (.obj n, k)) : mergeL l l' = some x := by
  subst h
  obtain ⟨r, k⟩ := x
  cases r with
  | obj n => exact absurd rfl (hn n k)
  | _ => rfl
section
variable {K : PySem.W.Frag} {B : Bs} {W W' V : Wd} {E : XK} {σ : L2.St} {H H2 : Hp} {s : Sx} {M' : List MO}
theorem StOk.enter (st : StOk K B W s σ H) : StOk K (entB W H) (ent W) ⟨[], s.M⟩ [] H where
  sub := st.sub
  fl := fun a o e => by
    show objL (W.lab a) = none
    rw [st.fl a o e]; rfl
  lh := fun a l e => st.lh a l (objL_some e).1
  slots := fun j sv e => by simp at e
  objs := fun n mo e => (st.objs n mo e).keepM ⟨fun _ _ e => e, fun _ _ e => e⟩ fun a k h => ⟨by show objL (W.lab a) = _; rw [h]; rfl, rfl⟩
  keep := fun a o e => by
    by_cases q : ∃ n k, W.lab a = some (.obj n, k)
    · exact .inl q
    · exact .inr ⟨objL_none q, e⟩
  fext := fun _ _ e => e
  fnew := fun _ _ e => .inl e
  mmx := fun _ _ e => e
  mml := st.mml
  ob := fun a ⟨n, k, e⟩ => by
    obtain ⟨o, q, _⟩ := st.lh a _ e
    exact ⟨o, q⟩
  len := rfl
  hold := fun p hp => by cases hp
theorem StOk.leave (st : StOk K B W s σ H) (l : (ent W).Le V) (st2 : StOk K (entB W H) V ⟨[], M'⟩ [] H2) :
    ∃ W2, W.Le W2 ∧ StOk K B W2 ⟨s.ρ, M'⟩ σ H2 ∧ ∀ v sv, SvOk K V H2 .res 0 sv v → SvOk K W2 H2 .res 0 sv v := by
  -- an address that bears one of our own labels is untouched
  have own : ∀ a x, W.lab a = some x → (∀ n k, x ≠ (.obj n, k)) → V.lab a = none ∧ H2 a = H a := fun a x e hn => by
    obtain ⟨o, q, _⟩ := st.lh a x e
    rcases st2.keep a o q with ⟨n, k, q1⟩ | ⟨q1, q2⟩
    · rw [e] at q1; cases q1; exact absurd rfl (hn n k)
    · exact ⟨q1, by rw [q2, q]⟩
  have fre : ∀ a x, V.lab a = some x → W.lab a = none ∨ ∃ n k, W.lab a = some (.obj n, k) := fun a x e => by
    cases q : W.lab a with
    | none => exact .inl rfl
    | some y =>
      obtain ⟨r, k⟩ := y
      have no : (∀ n j, (r, k) ≠ (Root.obj n, j)) → False := fun hn => by
        have z := (own a _ q hn).1
        rw [e] at z; cases z
      cases r with
      | obj n => exact .inr ⟨n, k, rfl⟩
      | slot i => exact (no fun _ _ z => by cases z).elim
      | res => exact (no fun _ _ z => by cases z).elim
      | hold => exact (no fun _ _ z => by cases z).elim
  have frF : ∀ a o, V.F a = some o → W.lab a = none ∨ ∃ n k, W.lab a = some (.obj n, k) := fun a o e => by
    rcases st2.fnew a o e with q | q | q | q
    · exact .inl (st.fl a o q)
    · cases q2 : W.lab a with
      | none => exact .inl rfl
      | some x => obtain ⟨u, z, _⟩ := st.lh a x q2; rw [show H a = none from q] at z; cases z
    · exact .inr q
    · cases q2 : W.lab a with
      | none => exact .inl rfl
      | some x =>
        by_cases hx : ∃ n k, x = (Root.obj n, k)
        · obtain ⟨n, k, rfl⟩ := hx
          exact .inr ⟨n, k, rfl⟩
        · obtain ⟨u, z, t⟩ := st.lh a x q2
          have z2 := (own a x q2 fun n k h => hx ⟨n, k, h⟩).2
          rw [st2.sub a o e, z] at z2
          cases z2
          rw [q] at t; cases t
  have lm : V.Lm { F := V.F, mm := V.mm, lab := fun a => mergeL (W.lab a) (V.lab a), hold := W.hold } := ⟨fun _ _ e => e, fun _ _ e => e⟩
  have le : W.Le { F := V.F, mm := V.mm, lab := fun a => mergeL (W.lab a) (V.lab a), hold := W.hold } := ⟨l.F, l.mm, rfl⟩
  refine ⟨_, le, ⟨st2.sub, fun a o e => ?_, fun a x e => ?_, fun i sv e => ?_, fun n mo e => ?_, fun a o e => ?_, fun a o e => l.F a o (st.fext a o e), fun a o e => ?_, fun n a e => l.mm n a (st.mmx n a e), st2.mml, fun a e => ?_, st.len, fun p hp => ?_⟩, fun v sv h => ?_⟩
  · show mergeL (W.lab a) (V.lab a) = none
    rw [mergeL_free (frF a o e), st2.fl a o e]
  · have e' : mergeL (W.lab a) (V.lab a) = some x := e
    cases q : V.lab a with
    | some y => exact st2.lh a y q
    | none =>
      cases q2 : W.lab a with
      | none => rw [q, q2] at e'; cases e'
      | some y =>
        by_cases hn : ∃ n k, y = (Root.obj n, k)
        · obtain ⟨n, k, rfl⟩ := hn
          rw [q, q2] at e'; cases e'
        · obtain ⟨u, z, t⟩ := st.lh a y q2
          exact ⟨u, by rw [(own a y q2 fun n k h => hn ⟨n, k, h⟩).2]; exact z, t⟩
  · obtain ⟨v, h1, h2⟩ := st.slots i sv e
    exact ⟨v, h1, h2.keep le fun _ a ha => ⟨mergeL_own ha (fun n k z => by cases z), (own a _ ha (fun n k z => by cases z)).2⟩⟩
  · exact (st2.objs n mo e).keepM lm fun a k ha => ⟨by show mergeL (W.lab a) (V.lab a) = _; rw [mergeL_free (fre a _ ha)]; exact ha, rfl⟩
  · rcases st.keep a o e with q | ⟨q1, q2⟩
    · exact .inl q
    · rcases st2.keep a o q2 with ⟨n, k, z⟩ | ⟨z1, z2⟩
      · rw [q1] at z; cases z
      · exact .inr ⟨by show mergeL (W.lab a) (V.lab a) = _; rw [mergeL_free (.inl q1)]; exact z1, z2⟩
  · rcases st2.fnew a o e with q | q | ⟨n, k, q⟩ | q
    · exact st.fnew a o q
    · exact .inr (.inl (st.free q).2.2)
    · cases e3 : B.H a with
      | none => exact .inr (.inl rfl)
      | some u =>
        rcases st.keep a u e3 with z | ⟨z, _⟩
        · exact .inr (.inr (.inl z))
        · rw [q] at z; cases z
    · exact .inr (.inr (.inr q))
  · obtain ⟨o, q⟩ := st.ob a e
    rcases st2.keep a o q with z | ⟨_, z⟩
    · exact st2.ob a z
    · exact ⟨o, z⟩
  · obtain ⟨h1, h2⟩ := st.hold p hp
    exact ⟨mergeL_own h1 (fun n k z => by cases z), by rw [(own _ _ h1 (fun n k z => by cases z)).2]; exact h2⟩
  · exact h.keepM lm fun _ a ha => ⟨by show mergeL (W.lab a) (V.lab a) = _; rw [mergeL_free (fre a _ ha)]; exact ha, rfl⟩
end

/-! ### a def keeps its promise -/
structure Def (P : Program) (w : World) (K : PySem.W.Frag) (mg : Str → Option Value) (base : Heap) (x : Str) (k n : Nat) (run : Run) : Prop where
  g : mg x = some (.ref (He.ga K x))
  ex : ∃ (fd : FuncData) (ps : List Str), ps.length = n ∧ FnOk P w K mg base (L2.CX P w) k (He.ga K x) fd ps (spD K run n) ∧ Binds K fd ps []
  kp : PySem.W.keepIn K (.ref (He.ga K x)) = true
section
variable {P : Program} {w : World} {K : PySem.W.Frag} {mg : Str → Option Value} {base : Heap} {x qual : Str} {params : Arguments} {body : List Stmt} {scope : Scope} {dvs : List V} {kws : List (Str × V)} {f : Addr} {fd : FuncData}
theorem initS_len {n : Nat} {ds : List D} {M : List MO} {vs : List V} {N : List Str} (hn : N.length = n) (h : vs.length = ds.length) : (L2.start N vs).length = (initS n ds M).ρ.length := by
  unfold L2.start initS
  simp [h, hn]
theorem StOk.begin {B : Bs} {W : Wd} {M : List MO} {H : Hp} {vs : List V} {ds : List D} {N : List Str} (st : StOk K B W ⟨[], M⟩ [] H) (r : Reps K W vs ds) : StOk K B W (initS N.length ds M) (L2.start N vs) H where
  sub := st.sub
  fl := st.fl
  lh := st.lh
  slots := fun i sv e => by
    unfold initS at e
    unfold L2.start
    have e' : ((ds.map fun d => some (SV.val d)) ++ List.replicate (N.length - ds.length) none)[i]? = some (some sv) := e
    have hl := Reps.length r
    by_cases q : i < ds.length
    · rw [List.getElem?_append_left (by simpa using q), List.getElem?_map] at e'
      cases e2 : ds[i]? with
      | none => rw [e2] at e'; cases e'
      | some d =>
        rw [e2] at e'
        cases e'
        obtain ⟨v, h1, h2⟩ := r.get e2
        exact ⟨v, by rw [List.getElem?_append_left (by simpa [hl] using q), List.getElem?_map, h1]; rfl, h2⟩
    · rw [List.getElem?_append_right (by simpa using q), List.getElem?_replicate] at e'
      split at e' <;> cases e'
  objs := st.objs
  keep := st.keep
  fext := st.fext
  fnew := st.fnew
  mmx := st.mmx
  mml := st.mml
  ob := st.ob
  len := initS_len rfl (Reps.length r)
  hold := st.hold
theorem def_ok {N ps : List Str} {k n : Nat} {db : DS} (g : mg x = some (.ref (He.ga K x))) (F : FunD K x qual params body scope [] kws (He.ga K x) fd) (S : FnScope N ps scope) (hn : ps.length = n)
    (hb : ∀ (kV doc pm : Value) (an : Option Addr) (cdv ct : Value) (us : List Value), us.length = ps.length → bindArgs (PySem.W.fnOf x qual params body scope .none kV doc pm an cdv ct) ⟨us, []⟩ = pure (ps.zip us))
    (hbody : ∀ (cdv : Value) (A : Around) (outer : List Env) (s : Shared) (H : Hp) (E : XK), Room k (A.deeper (envOfC qual scope s.heap.objs.size (He.ga K x) cdv)) →
      SndB (cxOf (L2.CX P w) P w K mg base N qual scope (He.ga K x) cdv A outer s H E) E body db) : Def P w K mg base x (k + 1) n (runFn N.length db) := by
  refine ⟨g, ⟨fd, ps, hn, FunD.ok F S (fun vs H Q E h => ?_) fun cdv A outer s H vs Q E hr hsp => ?_, F.bindsN hb⟩, F.kp⟩
  · obtain ⟨_, _, _, _, h, _⟩ := h
    exact h.trans hn.symm
  · obtain ⟨B, W, M, ds, hl, st, r, p⟩ := hsp
    refine ⟨_, (hbody cdv A outer s H E hr).h B, W, initS N.length ds M, st.begin r, ?_⟩
    unfold runFn at p
    show PstS K B W E (db (initS N.length ds M)) _
    cases e : db (initS N.length ds M) with
    | ok f s1 =>
      rw [e] at p
      cases f with
      | nx => exact fun σ H' V l st1 => p .non H' V l st1.bare .non
      | rt sv => exact fun v H' V l st1 o => p v H' V l st1 o
      | bk => exact p.elim
      | ct => exact p.elim
    | exc C M => rw [e] at p; exact p
    | bad => rw [e] at p; exact p
end

/-! ### a call -/
def callD (run : Run) (ds : List D) (s : Sx) : R SV := match run ds s.M with
  | .ok sv s2 => .ok sv ⟨s.ρ, s2.M⟩
  | .exc C M => .exc C M
  | .bad => .bad
def dCall (run : Run) (da : DA) : DE := fun s => (da s).bind fun ds s1 => callD run ds s1
theorem spD_of {K : PySem.W.Frag} {B : Bs} {W : Wd} {E : XK} {σ : L2.St} {H : Hp} {s : Sx} {run : Run} {n : Nat} {vs : List V} {ds : List D} {Q : VK} (st : StOk K B W s σ H) (hl : vs.length = n) (r : Reps K W vs ds)
    (p : Pst (okV K) K B W E σ (callD run ds s) Q) : spD K run n vs H Q E := by
  have lm : W.Lm (ent W) := ⟨fun _ _ e => e, fun _ _ e => e⟩
  refine ⟨entB W H, ent W, s.M, ds, hl, st.enter, r.monoM lm, ?_⟩
  unfold callD at p
  cases e : run ds s.M with
  | ok sv s2 =>
    rw [e] at p
    exact fun v H2 V l st2 o => by
      obtain ⟨W2, le, st3, hv⟩ := st.leave l st2.bare
      exact p v H2 W2 le st3 (hv v sv o)
  | exc C M =>
    rw [e] at p
    exact fun H2 V l st2 => by
      obtain ⟨W2, le, st3, hv⟩ := st.leave l st2
      exact p H2 W2 le st3.bare
  | bad => rw [e] at p; exact p
section
variable {X : Cx} {E : XK} {k n : Nat} {run : Run} {x : Str} {p pos : Pos} {e : Expr} {es : List Expr} {da : DA}
theorem snd_call (d : Def X.prog X.w X.K X.mg X.base x k n run) (hr : Room k X.A) (hg : Gl X x) (hx : Passes (L2.CX X.prog X.w) X E) (ha : SndA X E (e :: es) da) (hn : (e :: es).length = n)
    (hlen : ∀ s ds s1, da s = .ok ds s1 → ds.length = n)
    (hdb : (x == ("__debug__" : Str)) = false := by decide) (he : starEach (e :: es) X.env = (false, eval e X.env) :: starEach es X.env := by rfl) (hpl : (backTo pos (starEach es X.env)).any (·.1) = false := by rfl) :
    SndE X E (.Call (.Name x p) (e :: es) [] pos) (dCall run da) := by
  obtain ⟨fd, ps, hps, F, hb⟩ := d.ex
  refine ⟨fun B => PE.imp (pe_call F hr hg d.g d.kp hb .nil hx (ha.h B) hdb he hpl) fun σ H Q q => ?_⟩
  obtain ⟨W, s, st, pq⟩ := q
  refine ⟨W, s, st, ?_⟩
  unfold dCall at pq
  cases ea : da s with
  | ok xs s1 =>
    rw [ea] at pq
    refine fun vs H1 W1 l st1 r => ?_
    show spD X.K run n (vs ++ []) H1 Q E
    rw [List.append_nil]
    exact spD_of st1 ((Reps.length r).trans (hlen s xs s1 ea)) r (Pst.mono l pq)
  | exc C M => rw [ea] at pq; exact pq
  | bad => rw [ea] at pq; exact pq
end
theorem lenA_nil : ∀ s ds s1, dNil s = R.ok ds s1 → ds.length = 0 := fun s ds s1 h => by
  unfold dNil at h; cases h; rfl
theorem lenA_cons {a : DE} {r : DA} {n : Nat} (h : ∀ s ds s1, r s = R.ok ds s1 → ds.length = n) : ∀ s ds s1, dCons a r s = R.ok ds s1 → ds.length = n + 1 := fun s ds s1 e => by
  unfold dCons at e
  cases e1 : a s with
  | ok x s2 =>
    rw [e1] at e
    have e' : (r s2).bind (fun xs s2 => R.ok (frz x :: xs) s2) = R.ok ds s1 := e
    cases e2 : r s2 with
    | ok xs s3 =>
      rw [e2] at e'
      injection e' with e3 e4
      rw [← e3]
      exact congrArg (· + 1) (h _ _ _ e2)
    | exc C M => rw [e2] at e'; cases e'
    | bad => rw [e2] at e'; cases e'
  | exc C M => rw [e1] at e; cases e
  | bad => rw [e1] at e; cases e

/-! ### raise -/
def dRaise (C : Str) : DS := fun s => .exc C s.M
theorem sns_raise {X : Cx} {E : XK} {x m : Str} {j : Nat} {p p2 pos pos' : Pos} (hc : X.calm = true) (tk : Takes X (fun cls d _ H => E cls d H)) (gC : X.mg x = some (.ref (He.ga X.K x))) (c : (He.Fa.exc x).ok X.K = true) (hg : Gl X x)
    (hdb : (x == ("__debug__" : Str)) = false := by decide) : SndS X E (.Raise (some (.Call (.Name x p) [.Constant (.str m) j p2] [] pos)) none pos') (dRaise x) := by
  obtain ⟨c1, c2, c3, c4⟩ := He.exc_ok c
  refine ⟨fun B => PS.imp (ps_raise hc tk (pmk_own PySem.F.excBase_ValueError c1 gC c2 (raises_own c3 c4) hg hdb)) fun D σ H q => ?_⟩
  obtain ⟨W, s, st, pq⟩ := q
  exact pq H W (Wd.Le.refl W) st.bare
end DL
/-! The data layer, part 13: the built-ins by name, methods of texts and lists, f-strings, the empty dict. -/
namespace DL
open PySem PySem.Spec PyProof.Rows L2

/-! ### what a list holds -/
def allBls : List D → Option (List Bool)
  | [] => some []
  | .bl b :: r => (allBls r).map (b :: ·)
  | _ => none
def allStrs : List D → Option (List Str)
  | [] => some []
  | .str x :: r => (allStrs r).map (x :: ·)
  | _ => none
def seqOf : D → Option (List D)
  | .lst ds => some ds
  | .tup ds => some ds
  | .scr ns => some (ns.map .int)
  | _ => none
section
variable {K : PySem.W.Frag} {W : Wd} {H : Hp} {B : Bs} {s : Sx} {σ : L2.St}
theorem allBls_ok : ∀ {vs : List V} {ds : List D} {bs : List Bool}, Reps K W vs ds → allBls ds = some bs → vs = bs.map V.bl
  | _, _, _, .nil, e => by simp only [allBls, Option.some.injEq] at e; subst e; rfl
  | _, _, _, .cons h r, e => by
    cases h with
    | bl b =>
      simp only [allBls] at e
      obtain ⟨bs, e1, rfl⟩ := Option.map_eq_some_iff.mp e
      rw [allBls_ok r e1]; rfl
    | _ => simp [allBls] at e
theorem allStrs_ok : ∀ {vs : List V} {ds : List D} {bs : List Str}, Reps K W vs ds → allStrs ds = some bs → vs = bs.map V.str
  | _, _, _, .nil, e => by simp only [allStrs, Option.some.injEq] at e; subst e; rfl
  | _, _, _, .cons h r, e => by
    cases h with
    | str b _ =>
      simp only [allStrs] at e
      obtain ⟨bs, e1, rfl⟩ := Option.map_eq_some_iff.mp e
      rw [allStrs_ok r e1]; rfl
    | _ => simp [allStrs] at e
theorem reps_ints (ns : List Int) : Reps K W (ns.map V.int) (ns.map D.int) := by
  induction ns with
  | nil => exact .nil
  | cons n r ih => exact .cons (.int n) ih
/-- a looked-at list -/
theorem Vw.lst {v : V} {ds : List D} (h : Vw K W H v (.lst ds)) (sub : ∀ a o, W.F a = some o → H a = some o) : ∃ a vs, v = .ref a ∧ H a = some (.lst vs) ∧ Reps K W vs ds := by
  cases h with
  | own h r => exact ⟨_, _, rfl, h, r⟩
  | rep r =>
    cases r with
    | lst h r => exact ⟨_, _, rfl, sub _ _ h, r⟩
theorem Vw.seq {v : V} {d : D} {ds : List D} (h : Vw K W H v d) (sub : ∀ a o, W.F a = some o → H a = some o) (e : seqOf d = some ds) : ∃ a vs, v = .ref a ∧ (SqL K H a vs ∨ SqT K H a vs) ∧ Reps K W vs ds := by
  cases h with
  | own h r => simp only [seqOf, Option.some.injEq] at e; subst e; exact ⟨_, _, rfl, .inl (.of h), r⟩
  | ownD _ _ _ => simp [seqOf] at e
  | rep r =>
    cases r with
    | lst h r => simp only [seqOf, Option.some.injEq] at e; subst e; exact ⟨_, _, rfl, .inl (.of (sub _ _ h)), r⟩
    | tup h r => simp only [seqOf, Option.some.injEq] at e; subst e; exact ⟨_, _, rfl, .inr (.of (sub _ _ h)), r⟩
    | @scr a ns h =>
      simp only [seqOf, Option.some.injEq] at e; subst e
      exact ⟨a, _, rfl, .inl (Same.seq (K := K) (H := W.F) (H' := H) sub h), reps_ints ns⟩
    | _ => simp [seqOf] at e
theorem Vw.rep_of {v : V} {d : D} (h : Vw K W H v d) (hn : ∀ ds, d ≠ .lst ds) (hd : ∀ ks ds, d ≠ .dct ks ds) : Rep K W v d := by
  cases h with
  | rep r => exact r
  | own _ _ => exact absurd rfl (hn _)
  | ownD _ _ _ => exact absurd rfl (hd _ _)
end

/-! ### all, any, sum, min, max of a list -/
def oAll : D → Option SV
  | .lst ds => (allBls ds).map fun bs => .val (.bl (bs.all id))
  | _ => none
def oAny : D → Option SV
  | .lst ds => (allBls ds).map fun bs => .val (.bl (bs.any id))
  | _ => none
def oSum : D → Option SV
  | .lst ds => (allInts ds).map fun ns => .val (.int ns.sum)
  | _ => none
def minL (ns : List Int) : Int := ns.foldl min (ns.headD 0)
def maxL (ns : List Int) : Int := ns.foldl max (ns.headD 0)
def oMinL : D → Option SV
  | .lst ds => (allInts ds).bind fun ns => if ns = [] then none else some (.val (.int (minL ns)))
  | _ => none
def oMaxL : D → Option SV
  | .lst ds => (allInts ds).bind fun ns => if ns = [] then none else some (.val (.int (maxL ns)))
  | _ => none
theorem foldl_min {ns : List Int} : ∀ {a : Int}, ns.foldl min a ≤ a ∧ (∀ y ∈ ns, ns.foldl min a ≤ y) ∧ (ns.foldl min a = a ∨ ns.foldl min a ∈ ns) := by
  induction ns with
  | nil => intro a; exact ⟨Int.le_refl _, fun y h => (by cases h), .inl rfl⟩
  | cons n r ih =>
    intro a
    obtain ⟨h1, h2, h3⟩ := ih (a := min a n)
    have e : (n :: r).foldl min a = r.foldl min (min a n) := rfl
    rw [e]
    refine ⟨by omega, fun y hy => ?_, ?_⟩
    · rcases List.mem_cons.mp hy with rfl | hy
      · omega
      · exact h2 y hy
    · rcases h3 with h3 | h3
      · rw [h3]
        by_cases q : a ≤ n
        · exact .inl (by omega)
        · exact .inr (List.mem_cons.mpr (.inl (by omega)))
      · exact .inr (List.mem_cons_of_mem _ h3)
theorem foldl_max {ns : List Int} : ∀ {a : Int}, a ≤ ns.foldl max a ∧ (∀ y ∈ ns, y ≤ ns.foldl max a) ∧ (ns.foldl max a = a ∨ ns.foldl max a ∈ ns) := by
  induction ns with
  | nil => intro a; exact ⟨Int.le_refl _, fun y h => (by cases h), .inl rfl⟩
  | cons n r ih =>
    intro a
    obtain ⟨h1, h2, h3⟩ := ih (a := max a n)
    have e : (n :: r).foldl max a = r.foldl max (max a n) := rfl
    rw [e]
    refine ⟨by omega, fun y hy => ?_, ?_⟩
    · rcases List.mem_cons.mp hy with rfl | hy
      · omega
      · exact h2 y hy
    · rcases h3 with h3 | h3
      · rw [h3]
        by_cases q : n ≤ a
        · exact .inl (by omega)
        · exact .inr (List.mem_cons.mpr (.inl (by omega)))
      · exact .inr (List.mem_cons_of_mem _ h3)
theorem minL_mem {ns : List Int} (h : ns ≠ []) : minL ns ∈ ns := by
  cases ns with
  | nil => exact absurd rfl h
  | cons n r =>
    rcases (foldl_min (ns := n :: r) (a := n)).2.2 with q | q
    · exact List.mem_cons.mpr (.inl q)
    · exact q
theorem minL_le {ns : List Int} {y : Int} (h : y ∈ ns) : minL ns ≤ y := (foldl_min (ns := ns) (a := ns.headD 0)).2.1 y h
theorem maxL_mem {ns : List Int} (h : ns ≠ []) : maxL ns ∈ ns := by
  cases ns with
  | nil => exact absurd rfl h
  | cons n r =>
    rcases (foldl_max (ns := n :: r) (a := n)).2.2 with q | q
    · exact List.mem_cons.mpr (.inl q)
    · exact q
theorem le_maxL {ns : List Int} {y : Int} (h : y ∈ ns) : y ≤ maxL ns := (foldl_max (ns := ns) (a := ns.headD 0)).2.1 y h
section
variable {K : PySem.W.Frag}
theorem ou_all : OpU K (fun x H Q => rAll K [x] H Q) oAll := by
  intro B W s σ H E x dx sv Q st rx e p
  cases dx <;> try (exact nn e)
  obtain ⟨bs, e1, e2⟩ := Option.map_eq_some_iff.mp (show (allBls _).map _ = some sv from e)
  subst e2
  obtain ⟨a, vs, rfl, h, r⟩ := rx.lst st.sub
  exact ⟨a, bs, rfl, .of (by rw [← allBls_ok r e1]; exact h), p.one st (Rep.bl _)⟩
theorem ou_any : OpU K (fun x H Q => rAny K [x] H Q) oAny := by
  intro B W s σ H E x dx sv Q st rx e p
  cases dx <;> try (exact nn e)
  obtain ⟨bs, e1, e2⟩ := Option.map_eq_some_iff.mp (show (allBls _).map _ = some sv from e)
  subst e2
  obtain ⟨a, vs, rfl, h, r⟩ := rx.lst st.sub
  exact ⟨a, bs, rfl, .of (by rw [← allBls_ok r e1]; exact h), p.one st (Rep.bl _)⟩
theorem ou_sum : OpU K (fun x H Q => rSum K [x] H Q) oSum := by
  intro B W s σ H E x dx sv Q st rx e p
  cases dx <;> try (exact nn e)
  obtain ⟨bs, e1, e2⟩ := Option.map_eq_some_iff.mp (show (allInts _).map _ = some sv from e)
  subst e2
  obtain ⟨a, vs, rfl, h, r⟩ := rx.lst st.sub
  exact ⟨a, bs, rfl, .of (by rw [← allInts_ok r e1]; exact h), p.one st (Rep.int _)⟩
theorem ou_minL : OpU K (fun x H Q => rMin K [x] H Q) oMinL := by
  intro B W s σ H E x dx sv Q st rx e p
  cases dx <;> try (exact nn e)
  obtain ⟨ns, e1, e2⟩ := Option.bind_eq_some_iff.mp (show (allInts _).bind _ = some sv from e)
  split at e2
  · cases e2
  · rename_i hne
    cases e2
    obtain ⟨a, vs, rfl, h, r⟩ := rx.lst st.sub
    refine ⟨a, ns, rfl, .of (by rw [← allInts_ok r e1]; exact h), List.length_pos_iff.mpr hne, fun m hm hle => ?_⟩
    have em : m = minL ns := Int.le_antisymm (hle _ (minL_mem hne)) (minL_le hm)
    rw [em]; exact p.one st (Rep.int _)
theorem ou_maxL : OpU K (fun x H Q => rMax K [x] H Q) oMaxL := by
  intro B W s σ H E x dx sv Q st rx e p
  cases dx <;> try (exact nn e)
  obtain ⟨ns, e1, e2⟩ := Option.bind_eq_some_iff.mp (show (allInts _).bind _ = some sv from e)
  split at e2
  · cases e2
  · rename_i hne
    cases e2
    obtain ⟨a, vs, rfl, h, r⟩ := rx.lst st.sub
    refine ⟨a, ns, rfl, .of (by rw [← allInts_ok r e1]; exact h), List.length_pos_iff.mpr hne, fun m hm hle => ?_⟩
    have em : m = maxL ns := Int.le_antisymm (le_maxL hm) (hle _ (maxL_mem hne))
    rw [em]; exact p.one st (Rep.int _)
end

/-! ### list(x), tuple(x), str(i), int(x), abs -/
def oList : D → Option SV
  | .lst ds => some (.own ds)
  | .tup ds => some (.own ds)
  | .scr ns => some (.own (ns.map .int))
  | .str x => some (.own (strD x))
  | _ => none
def oTupOf : D → Option SV
  | .lst ds => some (.val (.tup ds))
  | .tup ds => some (.val (.tup ds))
  | _ => none
def oStr : D → Option SV
  | .int i => if i.natAbs.log2 < 1920 ∧ okS (toString i) = true then some (.val (.str (toString i))) else none
  | _ => none
def oInt : D → Option SV
  | .int i => some (.val (.int i))
  | .bl b => some (.val (.int (if b then 1 else 0)))
  | .str x => if x.length ≤ 640 then (PySem.intText? x).map fun n => .val (.int n) else none
  | _ => none
def oAbs : D → Option SV
  | .int i => some (.val (.int (if i < 0 then -i else i)))
  | _ => none
def oMin2 : D → D → Option SV
  | .int i, .int j => some (.val (.int (if j < i then j else i)))
  | _, _ => none
def oMax2 : D → D → Option SV
  | .int i, .int j => some (.val (.int (if j > i then j else i)))
  | _, _ => none
abbrev rListS : List V → Hp → VK → Prop := fun xs H Q => ∃ x : Str, xs = [.str x] ∧ x.length ≤ sizeLine ∧ ∀ l, H l = none → Q (.ref l) (upd H l (.lst (x.cps.toList.map fun c => V.str ⟨#[c]⟩)))
abbrev rListA (K : PySem.W.Frag) : List V → Hp → VK → Prop := fun xs H Q => (∃ p ys, xs = [.ref p] ∧ (SqL K H p ys ∨ SqT K H p ys) ∧ ∀ l, H l = none → Q (.ref l) (upd H l (.lst ys))) ∨ rListS xs H Q
section
variable {X : Cx}
theorem cr_listS (hc : X.calm = true) : CallR X (.type "list") rListS := by
  intro pins s σ H xs us Q I r h
  obtain ⟨x, rfl, hz, q⟩ := h
  obtain ⟨u, rfl, rx⟩ := vals1 r
  obtain ⟨t, rfl⟩ := rx
  have hz' : x.cps.size ≤ sizeLine := hz
  refine PySem.call_list_str (hn := hz') (I.ok.hd hc) x t fun h' tk acc c hk hat it => ?_
  refine ⟨.ref s.heap.objs.size, upd H s.heap.objs.size (.lst (x.cps.toList.map fun c => V.str ⟨#[c]⟩)), I.laid (t' := tk) hk (Nat.le_refl _) (show ObjOk X.prog X.w _ h' _ (.lst _) from ⟨?_, acc.toList, c, ?_, ?_⟩), rfl, q _ (I.hok.fresh (Nat.le_refl _))⟩
  · rw [List.length_map, Array.length_toList]; exact hz'
  · have ha : acc.toList.length = x.cps.size := by rw [Array.length_toList]; exact it.1
    refine vals_of_at (by rw [List.length_map, Array.length_toList, ha]) fun j y w h1 h2 => ?_
    have h3 := it.2 j w (by rw [← Array.getElem?_toList]; exact h2)
    rw [List.getElem?_map] at h1
    obtain ⟨c0, e1, e2⟩ := Option.map_eq_some_iff.mp h1
    subst e2
    obtain ⟨c', tk', e3, e4⟩ := h3
    have : c' = c0 := by
      rw [Array.getElem?_toList] at e1
      rw [e1] at e3; exact (Option.some.inj e3).symm
    subst this
    exact ⟨_, e4⟩
  · rw [Array.toArray_toList]; exact hat
theorem cr_list (hc : X.calm = true) : CallR X (.type "list") (rListA X.K) := call_list_of.or (cr_listS hc)
end
section
variable {K : PySem.W.Frag}
theorem strD_reps {W : Wd} {x : Str} (h : okS x = true) : ∀ {cs : List Nat}, (∀ c ∈ cs, c ∈ x.cps.toList) → Reps K W (cs.map fun c => V.str ⟨#[c]⟩) (cs.map fun c => D.str ⟨#[c]⟩)
  | [], _ => .nil
  | c :: cs, hc => .cons (.str _ (okS_sign h (hc c List.mem_cons_self))) (strD_reps h fun c hm => hc c (List.mem_cons_of_mem _ hm))
theorem ou_list : OpU K (fun x H Q => rListA K [x] H Q) oList := by
  intro B W s σ H E x dx sv Q st rx e p
  have go : ∀ ds, seqOf dx = some ds → sv = .own ds → rListA K [x] H Q := fun ds e1 e2 => by
    subst e2
    obtain ⟨a, vs, rfl, h, r⟩ := rx.seq st.sub e1
    exact .inl ⟨a, vs, rfl, h, fun l hl => p.newLst st r l hl⟩
  cases dx with
  | lst ds => cases e; exact go _ rfl rfl
  | tup ds => cases e; exact go _ rfl rfl
  | scr ds => cases e; exact go _ rfl rfl
  | str z =>
    cases e
    cases rx.rep_of (fun _ h => by cases h) (fun _ _ h => by cases h) with
    | str _ hz => exact .inr ⟨z, rfl, lim_line (okS.len hz), fun l hl => p.newLst st (strD_reps hz fun c h => h) l hl⟩
  | _ => exact nn e
theorem ou_tupOf : OpU K (fun x H Q => ∃ p ys, [x] = [.ref p] ∧ ((SqL K H p ys ∧ ∀ l, H l = none → Q (.ref l) (upd H l (.tup ys))) ∨ (SqT K H p ys ∧ Q (.ref p) H))) oTupOf := by
  intro B W s σ H E x dx sv Q st rx e p
  cases dx with
  | lst ds =>
    cases e
    obtain ⟨a, vs, rfl, h, r⟩ := rx.lst st.sub
    exact ⟨a, vs, rfl, .inl ⟨.of h, fun l hl => p.newTup st r l hl⟩⟩
  | tup ds =>
    cases e
    cases rx.rep_of (fun _ h => by cases h) (fun _ _ h => by cases h) with
    | tup h r => exact ⟨_, _, rfl, .inr ⟨.of (st.sub _ _ h), p.one st (Rep.tup h r)⟩⟩
  | _ => exact nn e
theorem o1_str : Op1 K (fun x H Q => ∃ i, [x] = [V.int i] ∧ i.natAbs.log2 < 1920 ∧ Q (.str (toString i)) H) oStr := by
  intro B W s σ H E x dx sv Q st rx e p
  cases rx with
  | int i =>
    simp only [oStr] at e
    split at e
    · rename_i h
      cases e
      exact ⟨i, rfl, h.1, p.one st (Rep.str _ h.2)⟩
    · cases e
  | _ => exact nn e
abbrev rIntA : List V → Hp → VK → Prop := fun xs H Q => ((∃ i, xs = [.int i] ∧ Q (.int i) H) ∨ ∃ k, xs = [.bl k] ∧ Q (.int (if k then 1 else 0)) H) ∨ ∃ a n, xs = [.str a] ∧ PySem.intText? a = some n ∧ a.length ≤ 640 ∧ Q (.int n) H
theorem o1_int : Op1 K (fun x H Q => rIntA [x] H Q) oInt := by
  intro B W s σ H E x dx sv Q st rx e p
  cases rx with
  | int i => cases e; exact .inl (.inl ⟨i, rfl, p.one st (Rep.int _)⟩)
  | bl b => cases e; exact .inl (.inr ⟨b, rfl, p.one st (Rep.int _)⟩)
  | str z hz =>
    simp only [oInt] at e
    split at e
    · rename_i h
      obtain ⟨n, e1, e2⟩ := Option.map_eq_some_iff.mp e
      subst e2
      exact .inr ⟨z, n, rfl, e1, h, p.one st (Rep.int _)⟩
    · cases e
  | _ => exact nn e
theorem o1_abs : Op1 K (fun x H Q => ∃ i, [x] = [V.int i] ∧ Q (.int (if i < 0 then -i else i)) H) oAbs := by
  intro B W s σ H E x dx sv Q st rx e p
  cases rx with
  | int i => cases e; exact ⟨i, rfl, p.one st (Rep.int _)⟩
  | _ => exact nn e
theorem o2_min2 : Op2 K (fun x y H Q => ∃ i j, [x, y] = [V.int i, V.int j] ∧ Q (.int (if j < i then j else i)) H) oMin2 := by
  intro B W s σ H E x y dx dy sv Q st rx ry e p
  cases rx with
  | int i =>
    cases ry with
    | int j => cases e; exact ⟨i, j, rfl, p.one st (Rep.int _)⟩
    | _ => exact nn e
  | _ => exact nn e
theorem o2_max2 : Op2 K (fun x y H Q => ∃ i j, [x, y] = [V.int i, V.int j] ∧ Q (.int (if j > i then j else i)) H) oMax2 := by
  intro B W s σ H E x y dx dy sv Q st rx ry e p
  cases rx with
  | int i =>
    cases ry with
    | int j => cases e; exact ⟨i, j, rfl, p.one st (Rep.int _)⟩
    | _ => exact nn e
  | _ => exact nn e
end
theorem Op1.n {K : PySem.W.Frag} {r : List V → Hp → VK → Prop} {op : D → Option SV} (h : Op1 K (fun x H Q => r [x] H Q) op) : OpN K r (on1 op) := by
  intro B W s σ H E xs ds sv Q st rx e p
  cases rx with
  | nil => exact nn e
  | cons r1 rr =>
    cases rr with
    | nil => exact h B W s σ H E _ _ sv Q st r1 e p
    | cons _ _ => exact nn e
section
variable {X : Cx}
theorem cr_int : CallR X (.type "int") rIntA := call_int1.or call_int_str
end

/-! ### the empty dict -/
def dEmp : DE := fun s => .ok (.ownD [] []) s
theorem snd_emp {X : Cx} {E : XK} {pos : Pos} : SndE X E (.Dict [] [] pos) dEmp := by
  refine ⟨fun B => PE.imp pe_dnewT fun σ H Q q => ?_⟩
  obtain ⟨W, s, st, p⟩ := q
  intro a ha
  obtain ⟨l, st2⟩ := st.made (o := .dT []) ha
  exact p _ _ _ l st2 ⟨a, [], rfl, updl_same, upd_same, rfl, .nil⟩

/-! ### methods of texts -/
/-- o.m(e), o a text -/
def dM1 (op : D → D → Option SV) (a b : DE) : DE := fun s => (a s).bind fun x s1 => match frz x with
  | .str z => (b s1).bind fun y s2 => R.opt (op (.str z) (frz y)) s2
  | _ => .bad
section
variable {X : Cx} {E : XK} {o e : Expr} {da db : DE}
theorem snd_m1 {id : String} {name : Str} {apos pos : Pos} {r : V → List V → Hp → VK → Prop} {op : D → D → Option SV} (slot : Slot "str" name id) (ty : typeOf (.builtin id) = pure (.type "method_descriptor")) (rule : MtR X id r) (ho : Op2 X.K (fun x y H Q => r x [y] H Q) op)
    (ha : SndE X E o da) (hb : SndE X E e db) (hs : starEach [e] X.env = [(false, eval e X.env)] := by rfl) (hbase : attributeBase o name X.env (eval o X.env) = eval o X.env := by rfl) (hline : (apos.endLine == pos.line) = true := by rfl) :
    SndE X E (.Call (.Attribute o name apos) [e] [] pos) (dM1 op da db) := by
  refine ⟨fun B => PE.imp (pe_m1 slot ty rule (ha.h B) (hb.h B) hs hbase hline) fun σ H Q q => ?_⟩
  obtain ⟨W, s, st, p⟩ := q
  refine Pst.seqD st p fun v H1 W1 s1 x l st1 r1 p1 => ?_
  generalize frz x = d at r1 p1
  cases r1 with
  | str z hz =>
    refine ⟨⟨z, rfl⟩, Pst.seqD st1 p1 fun u H2 W2 s2 y l2 st2 r2 p2 => ?_⟩
    obtain ⟨sv, e2, p3⟩ := p2.opt
    exact ho B W2 s2 σ H2 E _ u _ _ sv Q st2 (.str z hz) r2 e2 p3
  | _ => exact p1.elim
end
def oPartition : D → D → Option SV
  | .str a, .str b => if b.length = 0 then none else if okS (Txt.partition a b).1 = true ∧ okS (Txt.partition a b).2.1 = true ∧ okS (Txt.partition a b).2.2 = true then some (.val (.tup [.str (Txt.partition a b).1, .str (Txt.partition a b).2.1, .str (Txt.partition a b).2.2])) else none
  | _, _ => none
def oSplit : D → D → Option SV
  | .str a, .str b => if b.length = 0 then none else if (Txt.split a b).all okS = true then some (.own ((Txt.split a b).map .str)) else none
  | _, _ => none
def oJoin : D → D → Option SV
  | .str a, .lst ds => (allStrs ds).bind fun ys => if (ys.map (·.length)).sum + ys.length * a.length ≤ 16777216 ∧ okS (Txt.join a ys) = true then some (.val (.str (Txt.join a ys))) else none
  | _, _ => none
def oEnds : D → D → Option SV
  | .str a, .str b => some (.val (.bl (Txt.endswith a b)))
  | _, _ => none
def oLstrip : D → D → Option SV
  | .str a, .str b => if okS (Txt.lstripChars a b) = true then some (.val (.str (Txt.lstripChars a b))) else none
  | _, _ => none
theorem strs_reps {K : PySem.W.Frag} {W : Wd} : ∀ {ys : List Str}, ys.all okS = true → Reps K W (ys.map V.str) (ys.map D.str)
  | [], _ => .nil
  | y :: ys, h => by
    rw [List.all_cons, Bool.and_eq_true] at h
    exact .cons (.str y h.1) (strs_reps h.2)
section
variable {K : PySem.W.Frag}
theorem o2_partition : Op2 K (fun x y H Q => ∃ a b, x = .str a ∧ [y] = [V.str b] ∧ (b.length == 0) = false ∧ a.length ≤ sizeLine ∧ ∀ p, H p = none → Q (.ref p) (upd H p (.tup [.str (Txt.partition a b).1, .str (Txt.partition a b).2.1, .str (Txt.partition a b).2.2]))) oPartition := by
  intro B W s σ H E x y dx dy sv Q st rx ry e p
  cases rx <;> try (exact nn e)
  rename_i a ha
  cases ry <;> try (exact nn e)
  rename_i b hb
  simp only [oPartition] at e
  split at e
  · cases e
  · rename_i h0
    split at e
    · rename_i h
      cases e
      exact ⟨a, b, rfl, rfl, beq_eq_false_iff_ne.mpr h0, lim_line (okS.len ha), fun q hq => p.newTup st (.cons (.str _ h.1) (.cons (.str _ h.2.1) (.cons (.str _ h.2.2) .nil))) q hq⟩
    · cases e
theorem o2_split : Op2 K (fun x y H Q => ∃ a b, x = .str a ∧ [y] = [V.str b] ∧ (b.length == 0) = false ∧ a.length + 2 ≤ sizeLine ∧ rNewStrs (Txt.split a b) H Q) oSplit := by
  intro B W s σ H E x y dx dy sv Q st rx ry e p
  cases rx <;> try (exact nn e)
  rename_i a ha
  cases ry <;> try (exact nn e)
  rename_i b hb
  simp only [oSplit] at e
  split at e
  · cases e
  · rename_i h0
    split at e
    · rename_i h
      cases e
      exact ⟨a, b, rfl, rfl, beq_eq_false_iff_ne.mpr h0, by have := okS.len ha; rw [sizeLine_eq]; unfold lim at this; omega, fun q hq => p.newLst st (strs_reps h) q hq⟩
    · cases e
theorem o2_join : Op2 K (fun x y H Q => ∃ a p, ∃ ys : List Str, x = .str a ∧ [y] = [V.ref p] ∧ (SqL K H p (ys.map V.str) ∨ SqT K H p (ys.map V.str)) ∧ (ys.map (·.length)).sum + ys.length * a.length ≤ 16777216 ∧ Q (.str (Txt.join a ys)) H) oJoin := by
  intro B W s σ H E x y dx dy sv Q st rx ry e p
  cases rx <;> try (exact nn e)
  rename_i a ha
  cases ry <;> try (exact nn e)
  rename_i l vs ds h r
  obtain ⟨ys, e1, e2⟩ := Option.bind_eq_some_iff.mp (show (allStrs ds).bind _ = some sv from e)
  split at e2
  · rename_i h2
    cases e2
    exact ⟨a, l, ys, rfl, rfl, .inl (.of (by rw [← allStrs_ok r e1]; exact st.sub _ _ h)), h2.1, p.one st (Rep.str _ h2.2)⟩
  · cases e2
theorem o2_ends : Op2 K (fun x y H Q => ∃ a b, x = .str a ∧ [y] = [V.str b] ∧ Q (.bl (Txt.endswith a b)) H) oEnds := by
  intro B W s σ H E x y dx dy sv Q st rx ry e p
  cases rx <;> try (exact nn e)
  cases ry <;> try (exact nn e)
  cases e
  exact ⟨_, _, rfl, rfl, p.one st (Rep.bl _)⟩
theorem o2_lstrip : Op2 K (fun x y H Q => ∃ a b, x = .str a ∧ [y] = [V.str b] ∧ a.length ≤ sizeLine ∧ Q (.str (Txt.lstripChars a b)) H) oLstrip := by
  intro B W s σ H E x y dx dy sv Q st rx ry e p
  cases rx <;> try (exact nn e)
  rename_i a ha
  cases ry <;> try (exact nn e)
  rename_i b hb
  simp only [oLstrip] at e
  split at e
  · rename_i h
    cases e
    exact ⟨a, b, rfl, rfl, lim_line (okS.len ha), p.one st (Rep.str _ h)⟩
  · cases e
end

/-! ### methods that ask a list -/
def dLm (op : D → List D → Option SV) (j : Nat) (a : DA) : DE := fun s => match view s j with
  | some (.lst _) => (a s).bind fun xs s1 => match view s1 j with
    | some (.lst ds) => R.opt (op (.lst ds) xs) s1
    | _ => .bad
  | _ => .bad
def oIndex : D → List D → Option SV
  | .lst ds, [x] => if lvls ds ≤ 59 ∧ lvl x ≤ 60 then (ds.findIdx? fun z => eqv z x).map fun j => .val (.int (j : Nat)) else none
  | _, _ => none
def oCount : D → List D → Option SV
  | .lst ds, [x] => if lvls ds ≤ 59 ∧ lvl x ≤ 60 then some (.val (.int ((ds.countP fun z => eqv z x : Nat) : Int))) else none
  | _, _ => none
theorem findIdx_place {ds : List D} {x : D} {j : Nat} (h : ds.findIdx? (fun z => eqv z x) = some j) : ∃ z, ds[j]? = some z ∧ eqv z x = true ∧ ∀ m z', m < j → ds[m]? = some z' → eqv z' x = false := by
  obtain ⟨hj, h1, h2⟩ := List.findIdx?_eq_some_iff_getElem.mp h
  refine ⟨ds[j], List.getElem?_eq_getElem hj, h1, fun m z' hm e => ?_⟩
  have hml : m < ds.length := Nat.lt_trans hm hj
  rw [List.getElem?_eq_getElem hml] at e
  rw [← Option.some.inj e]
  have := h2 m hm
  simpa using this
def rCountD (K : PySem.W.Frag) : V → List V → Hp → VK → Prop := fun x xs H Q => ∃ (a : Addr) (y : V) (d : PyData) (ds : List PyData), x = V.ref a ∧ xs = [y] ∧ Dp K H (V.ref a) (.list ds) ∧ Dp K H y d ∧
  SeqAt.shaped (.list ds) = true ∧ SeqAt.shaped d = true ∧ Q (.int ((ds.countP fun z => PyData.eqv z d : Nat) : Int)) H
section
variable {X : Cx}
theorem mt_countD (hu : X.A.units + 65 < cLine) : MtR X "list.count" (rCountD X.K) := by
  intro pins s σ H x xs v us Q I rx rxs h
  obtain ⟨a, y, d, ds, rfl, rfl, hl, hy, sl, sd, q⟩ := h
  cases rx
  obtain ⟨uy, rfl, ry⟩ := rxs.one
  obtain ⟨bs, r1⟩ := Dp.reads I d y uy hy ry
  have hxs : PyData.canLayAll0 ds = true := SeqAt.canLay_of_shaped sl
  have hroom : X.A.units + 1 + min (PyData.depthAll ds) d.depth < cLine := room_in_shaped sd hu
  cases hl with
  | lst hs ha =>
    obtain ⟨its, rv, ⟨⟨cls, dd, data, sls⟩, n, ho, hc, hdn, hdt⟩, hlen⟩ := I.list hs
    dsimp only at hc hdt
    subst hc hdt
    obtain ⟨as, h4⟩ := Dp.readsAll I ds _ its ha rv
    have hmap : its.map (SeqAt.readOf s.heap) = ds := SeqAt.readsAll_map ds its as hxs h4
    refine call_meets PySem.F.slot_list_count ⟨_, ho, rfl⟩ PySem.F.entry_list_count (PySem.F.args_list_count_2 _ _)
      (SeqAt.list_countAt a its.toArray n dd sls uy fun u => PyData.eqv (SeqAt.readOf s.heap u) d) ⟨ho, SeqAt.items_eqAt (vs := its.toArray) (show ReadsAll s.heap its.toArray.toList ds as from h4) r1 hxs (SeqAt.canLay_of_shaped sd) hroom, ?_⟩
    have ec : its.toArray.toList.countP (fun u => PyData.eqv (SeqAt.readOf s.heap u) d) = ds.countP fun z => PyData.eqv z d := by
      rw [← hmap, List.countP_map]; rfl
    refine ⟨.int ((ds.countP fun z => PyData.eqv z d : Nat) : Int), H, I.tok _, ⟨s.toks, ?_⟩, q⟩
    show Value.int ((its.toArray.toList.countP (fun u => PyData.eqv (SeqAt.readOf s.heap u) d) : Nat) : Int) s.toks = _
    rw [ec]
end
/-- what a method that asks a list wants -/
def AskOk (K : PySem.W.Frag) (r : V → List V → Hp → VK → Prop) (op : D → List D → Option SV) : Prop := ∀ (B : Bs) (W : Wd) (s : Sx) (σ : L2.St) (H : Hp) (E : XK) (x : V) (ds : List D) (xs : List V) (es : List D) (sv : SV) (Q : VK), StOk K B W s σ H → Vw K W H x (.lst ds) → Reps K W xs es →
  op (.lst ds) es = some sv → Pst (okV K) K B W E σ (.ok sv s) Q → r x xs H Q
section
variable {K : PySem.W.Frag}
theorem lvl_lst {ds : List D} (h : lvls ds ≤ 59) : lvl (.lst ds) ≤ 60 := by
  have : lvl (.lst ds) = lvls ds + 1 := by first | rfl | simp [lvl] | (simp [lvl]; omega)
  omega
theorem ask_index : AskOk K (rIndexD K) oIndex := by
  intro B W s σ H E x ds xs es sv Q st vx rx e p
  cases rx with
  | nil => exact nn e
  | @cons y _ dy _ r1 rr =>
    cases rr with
    | cons _ _ => exact nn e
    | nil =>
      simp only [oIndex] at e
      split at e
      · rename_i hl
        obtain ⟨j, e1, e2⟩ := Option.map_eq_some_iff.mp e
        subst e2
        obtain ⟨z, f1, f2, f3⟩ := findIdx_place e1
        obtain ⟨d1, d2, d3⟩ := dp_vw st.sub vx (lvl_lst hl.1)
        obtain ⟨g1, g2, g3⟩ := dp_of st.sub r1 hl.2
        obtain ⟨a, vs, rfl, hH, hr⟩ := vx.lst st.sub
        have ez : toPs ds = ds.map toP := toPs_map ds
        refine ⟨a, y, toP dy, toPs ds, j, toP z, rfl, rfl, d1, g1, shaped_of d2 d3 (lvl_lst hl.1), shaped_of g2 g3 hl.2, by rw [ez, List.getElem?_map, f1]; rfl, f2, fun m z' hm he => ?_, p.one st (Rep.int _)⟩
        rw [ez, List.getElem?_map] at he
        obtain ⟨z0, k1, k2⟩ := Option.map_eq_some_iff.mp he
        rw [← k2]
        exact f3 m z0 hm k1
      · cases e
theorem ask_count : AskOk K (rCountD K) oCount := by
  intro B W s σ H E x ds xs es sv Q st vx rx e p
  cases rx with
  | nil => exact nn e
  | @cons y _ dy _ r1 rr =>
    cases rr with
    | cons _ _ => exact nn e
    | nil =>
      simp only [oCount] at e
      split at e
      · rename_i hl
        cases e
        obtain ⟨d1, d2, d3⟩ := dp_vw st.sub vx (lvl_lst hl.1)
        obtain ⟨g1, g2, g3⟩ := dp_of st.sub r1 hl.2
        obtain ⟨a, vs, rfl, hH, hr⟩ := vx.lst st.sub
        refine ⟨a, y, toP dy, toPs ds, rfl, rfl, d1, g1, shaped_of d2 d3 (lvl_lst hl.1), shaped_of g2 g3 hl.2, ?_⟩
        have ec : (toPs ds).countP (fun z => PyData.eqv z (toP dy)) = ds.countP fun z => eqv z dy := by
          rw [toPs_map, List.countP_map]; rfl
        rw [ec]
        exact p.one st (Rep.int _)
      · cases e
end
section
variable {X : Cx} {E : XK} {o e : Expr} {es : List Expr} {da : DA} {j : Nat} {name : Str} {apos cpos : Pos} {id : String} {r : V → List V → Hp → VK → Prop} {op : D → List D → Option SV}
theorem snd_ask (hf : AskOk X.K r op) (slot : Slot "list" name id) (hty : typeOf (.builtin id) = pure (.type "method_descriptor")) (hm : MtR X id r) (ho : PE X o (tVar j)) (ha : SndA X E (e :: es) da)
    (hbase : attributeBase o name X.env (eval o X.env) = eval o X.env := by rfl)
    (hfew : ((backTo cpos (starEach (e :: es) X.env)).all (fun x => !x.1) && (backToKw cpos (keywordEach [] X.env)).all (fun x => x.1.isSome) && decide ((e :: es).length + ([] : List Keyword).length + (if ([] : List Keyword).isEmpty then 0 else 1) < 30)) = true := by rfl)
    (hline : (apos.endLine == cpos.line) = true := by rfl) (hs : starEach (e :: es) X.env = (false, eval e X.env) :: starEach es X.env := by rfl) (hplain : (backTo cpos (starEach es X.env)).any (·.1) = false := by rfl) :
    SndE X E (.Call (.Attribute o name apos) (e :: es) [] cpos) (dLm op j da) := by
  refine ⟨fun B => PE.imp (pe_bm PySem.F.plainAttrs_list slot hty hm ho (ha.h B) hbase hfew hline hs hplain) fun σ H Q q => ?_⟩
  obtain ⟨W, s, st, p⟩ := q
  unfold dLm at p
  cases e1 : view s j with
  | none => rw [e1] at p; exact p.elim
  | some d =>
    rw [e1] at p
    cases d <;> try (exact p.elim)
    rename_i ds
    obtain ⟨v, hv, vw⟩ := st.view e1
    obtain ⟨a, vs, rfl, hH, hr⟩ := vw.lst st.sub
    refine ⟨_, hv, .inl ⟨rfl, _, SqL.of hH⟩, Pst.seq (ok := okL X.K) st p fun us H1 W1 s1 x l st1 r1 p1 => ?_⟩
    cases e2 : view s1 j with
    | none => rw [e2] at p1; exact p1.elim
    | some d2 =>
      rw [e2] at p1
      cases d2 <;> try (exact p1.elim)
      obtain ⟨w, hw, vw2⟩ := st1.view e2
      rw [hv] at hw; cases hw
      obtain ⟨sv, e3, p3⟩ := p1.opt
      exact hf B W1 s1 σ H1 E _ _ us _ sv Q st1 vw2 r1 e3 p3
end

/-! ### f-strings -/
def dFmt (a : DE) : DE := fun s => (a s).bind fun x s1 => match frz x with
  | .str y => .ok (.val (.str y)) s1
  | .int i => if i.natAbs.log2 < 1920 ∧ okS (toString i) = true then .ok (.val (.str (toString i))) s1 else .bad
  | _ => .bad
def dJs : List DE → Str → DE
  | [], acc => fun s => if okS acc = true then .ok (.val (.str acc)) s else .bad
  | a :: r, acc => fun s => (a s).bind fun x s1 => match frz x with
    | .str y => if (acc ++ y).length ≤ lim then dJs r (acc ++ y) s1 else .bad
    | _ => .bad
inductive SndJ (X : Cx) (E : XK) : List Expr → List DE → Prop where
  | nil : SndJ X E [] []
  | cons {e : Expr} {a : DE} {es : List Expr} {as : List DE} (h : SndE X E e a) (r : SndJ X E es as) : SndJ X E (e :: es) (a :: as)
section
variable {X : Cx} {E : XK}
theorem snd_fmt {e : Expr} {a : DE} {pos : Pos} (h : SndE X E e a) : SndE X E (.FormattedValue e (-1) none pos) (dFmt a) := by
  refine ⟨fun B => PE.imp (pe_fmt (h.h B)) fun σ H Q q => ?_⟩
  obtain ⟨W, s, st, p⟩ := q
  refine Pst.seqD st p fun v H1 W1 s1 x l st1 r1 p1 => ?_
  generalize frz x = d at r1 p1
  cases r1 with
  | str z hz => exact .inl ⟨z, rfl, lim_line (okS.len hz), p1.one st1 (Rep.str z hz)⟩
  | int i =>
    dsimp only at p1
    split at p1
    · rename_i hi
      exact .inr ⟨i, rfl, hi.1, p1.one st1 (Rep.str _ hi.2)⟩
    · exact p1.elim
  | _ => exact p1.elim
theorem SndJ.pj {es : List Expr} {as : List DE} (h : SndJ X E es as) (B : Bs) : PJ X es (as.map fun a => TG (okV X.K) X.K B E a) := by
  induction h with
  | nil => exact .nil
  | cons h _ ih => exact .cons (h.h B) ih
theorem js_ok {B : Bs} {σ : L2.St} {Q : VK} : ∀ {as : List DE} {acc : Str} {H : Hp}, TG (okV X.K) X.K B E (dJs as acc) σ H Q → tJs (as.map fun a => TG (okV X.K) X.K B E a) acc σ H fun out H1 => Q (.str out) H1
  | [], acc, H, q => by
    obtain ⟨W, s, st, p⟩ := q
    unfold dJs at p
    split at p
    · rename_i h
      exact p.one st (Rep.str _ h)
    · exact p.elim
  | a :: as, acc, H, q => by
    obtain ⟨W, s, st, p⟩ := q
    refine Pst.seqD st p fun v H1 W1 s1 x l st1 r1 p1 => ?_
    generalize frz x = d at r1 p1
    cases r1 with
    | str z hz =>
      dsimp only at p1
      split at p1
      · rename_i hl
        exact ⟨z, rfl, lim_line hl, js_ok ⟨W1, s1, st1, p1⟩⟩
      · exact p1.elim
    | _ => exact p1.elim
theorem snd_joined {v1 v2 : Expr} {es : List Expr} {as : List DE} {pos : Pos} (h : SndJ X E (v1 :: v2 :: es) as) : SndE X E (.JoinedStr (v1 :: v2 :: es) pos) (dJs as Str.empty) :=
  ⟨fun B => PE.imp (pe_joined (h.pj B)) fun σ H Q q => js_ok q⟩
theorem snd_joined1 {e : Expr} {a : DE} {pos : Pos} (h : SndE X E e a) : SndE X E (.JoinedStr [e] pos) a := ⟨fun B => pe_joined1 (h.h B)⟩
end
end DL
/-! The data layer, part 14: sorted. -/
namespace DL
open PySem PySem.Spec PyProof.Rows L2
open PySem.W (dataLe alike alikeAll AllAlike Sortable EachIs)

def tupNE : D → Bool
  | .tup (_ :: _) => true
  | _ => false
def atomD : D → Bool
  | .bl _ => true
  | .int _ => true
  | .str _ => true
  | .lst _ => true
  | _ => false
def atomP : PyData → Bool
  | .bool _ => true
  | .int _ => true
  | .str _ => true
  | .list _ => true
  | _ => false
def sortable (ds : List D) : Bool := (ds.all fun d => ds.all fun e => alike (toP d) (toP e)) && (ds.all tupNE || ds.all atomD) && decide (lvls ds ≤ 59) && decide (ds.length ≤ lim)
def sortD (ds : List D) : List D := ds.mergeSort (dataLe false toP)
def keyD (k : List Int) : D := .tup (k.map .int)
def keyP (k : List Int) : PyData := .tuple (k.map .int)
def sortK (ks : List (List Int)) : List (List Int) := ks.mergeSort (dataLe false keyP)
def oSorted : D → Option SV
  | .lst ds => if sortable ds = true then some (.own (sortD ds)) else none
  | .dct ks _ => if (ks.all fun k => !k.isEmpty) = true ∧ ks.length ≤ lim then some (.own ((sortK ks).map keyD)) else none
  | _ => none
section
variable {K : PySem.W.Frag} {W : Wd} {H : Hp}
theorem each_of {P : Value → D → Prop} : ∀ {vs : List V} {us : List Value} {ds : List D}, Vals vs us → Reps K W vs ds → (∀ x u d, d ∈ ds → RelV x u → Rep K W x d → P u d) → EachIs P us ds
  | _, _, _, .nil, .nil, _ => .nil
  | _, _, _, .cons r rs, .cons h hs, k => .cons (k _ _ _ List.mem_cons_self r h) (each_of rs hs fun x u d hd => k x u d (List.mem_cons_of_mem _ hd))
theorem back_of : ∀ {us : List Value} {ds : List D}, EachIs (fun u d => ∃ x, RelV x u ∧ Rep K W x d) us ds → ∃ ys, Vals ys us ∧ Reps K W ys ds
  | _, _, .nil => ⟨[], .nil, .nil⟩
  | _, _, .cons ⟨x, r, h⟩ t => by
    obtain ⟨ys, r1, h1⟩ := back_of t
    exact ⟨x :: ys, .cons r r1, .cons h h1⟩
theorem lvl_mem {d : D} : ∀ {ds : List D}, d ∈ ds → lvl d ≤ lvls ds
  | _ :: _, h => by
    simp only [lvls]
    rcases List.mem_cons.mp h with rfl | h
    · omega
    · have := lvl_mem h; omega
theorem sortable_ok {ds : List D} (h : sortable ds = true) : AllAlike (ds.map toP) ∧ Sortable (ds.map toP) ∧ lvls ds ≤ 59 ∧ ds.length ≤ lim := by
  unfold sortable at h
  rw [Bool.and_eq_true, Bool.and_eq_true, Bool.and_eq_true] at h
  obtain ⟨⟨⟨h1, h2⟩, h3⟩, h4⟩ := h
  refine ⟨fun d hd e he => ?_, ?_, of_decide_eq_true h3, of_decide_eq_true h4⟩
  · obtain ⟨d0, hd0, rfl⟩ := List.mem_map.mp hd
    obtain ⟨e0, he0, rfl⟩ := List.mem_map.mp he
    exact List.all_eq_true.mp (List.all_eq_true.mp h1 d0 hd0) e0 he0
  · rw [Bool.or_eq_true] at h2
    rcases h2 with h2 | h2
    · refine .inl fun d hd => ?_
      obtain ⟨d0, hd0, rfl⟩ := List.mem_map.mp hd
      have := List.all_eq_true.mp h2 d0 hd0
      cases d0 with
      | tup xs => cases xs with
        | nil => cases this
        | cons x r => exact ⟨toP x, toPs r, by simp [toP, toPs]⟩
      | _ => cases this
    · refine .inr fun d hd => ?_
      obtain ⟨d0, hd0, rfl⟩ := List.mem_map.mp hd
      have := List.all_eq_true.mp h2 d0 hd0
      have no : ∀ p : PyData, atomP p = true → p ≠ .none ∧ ∀ xs, p ≠ .tuple xs := fun p hp => ⟨fun z => (by rw [z] at hp; cases hp), fun xs z => (by rw [z] at hp; cases hp)⟩
      refine no _ ?_
      cases d0 with
      | bl b => rw [toP]; rfl
      | int b => rw [toP]; rfl
      | str b => rw [toP]; rfl
      | lst b => rw [toP]; rfl
      | _ => cases this
end
def rSortL (K : PySem.W.Frag) : List V → Hp → VK → Prop := fun vs H Q => ∃ (W : Wd) (a : Addr) (xs : List V) (ds : List D), vs = [.ref a] ∧ (∀ a o, W.F a = some o → H a = some o) ∧ SqL K H a xs ∧ Reps K W xs ds ∧ sortable ds = true ∧
  ∀ ys p, Reps K W ys (sortD ds) → H p = none → Q (.ref p) (upd H p (.lst ys))
section
variable {X : Cx}
theorem cr_sortL (hu : X.A.units + 64 < cLine) : CallR X (.builtin "sorted") (rSortL X.K) := by
  intro pins s σ H vs us Q I r h
  obtain ⟨W, a, xs, ds, rfl, sub, hs, rd, ok, q⟩ := h
  obtain ⟨its, rv, hl, hz⟩ := I.list hs
  rw [Vals.ref1 r]
  obtain ⟨o1, o2, o3, o4⟩ := sortable_ok ok
  refine PySem.W.sorted_data (β := D) (enc := toP) (R := fun u d => ∃ x, RelV x u ∧ Rep X.K W x d) (bs := ds) hl.isList (each_of rv rd fun x u d _ h1 h2 => ⟨x, h1, h2⟩) (each_of rv rd fun x u d hd h1 h2 => ?_) o1 o2 (by rw [← Reps.length rd]; exact hz) (fun d hd => ?_) fun out h1 h2 => ?_
  · have hlv : lvl d ≤ 60 := by have := lvl_mem hd; omega
    exact Dp.reads I (toP d) x u (dp_of sub h2 hlv).1 h1
  · have hlv : lvl d ≤ 59 := by have := lvl_mem hd; omega
    obtain ⟨u, hu1⟩ := List.getElem?_of_mem hd
    obtain ⟨v, _, hv⟩ := Reps.get rd hu1
    rw [(dp_of sub hv (by omega)).2.2]; omega
  · obtain ⟨ys, ry, py⟩ := back_of h2
    obtain ⟨ep, he'⟩ := PyProof.Rows.sortedAll_at s.heap its out.toArray
    have hlen : ys.length ≤ sizeLine := by
      rw [Vals.length ry, h1, ← Reps.length rd]; exact hz
    exact ⟨.ref _, upd H (s.heap.objs.size + 1) (.lst ys), I.laid (t' := s.toks) (fun _ _ => PyProof.Rows.sortedAll_old) (Nat.le_succ _) ⟨hlen, out, ep, ry, he'⟩, rfl, q ys _ py (I.hok.fresh (Nat.le_succ _))⟩
end

/-! ### sorted(d), the keys tuples of ints -/
def KeyAt (H : Hp) : List Addr → List (List Int) → Prop := Paired fun b k => H b = some (.tup (k.map V.int))
def rSortT : List V → Hp → VK → Prop := fun vs H Q => ∃ (a : Addr) (kvs : List (List Key × V)) (ks : List (List Int)), vs = [.ref a] ∧ H a = some (.dT kvs) ∧ kvs.map (·.1) = keyT ks ∧ (ks.all fun k => !k.isEmpty) = true ∧ ks.length ≤ lim ∧
  ∀ bs p, KeyAt H bs (sortK ks) → H p = none → Q (.ref p) (upd H p (.lst (bs.map V.ref)))
theorem kV_inl (k : List Int) : (k.map Sum.inl : List Key).map kV = k.map V.int := by
  rw [List.map_map]; rfl
theorem reads_ints {h : Heap} : ∀ {vs : List Value} {ns : List Int}, Vals (ns.map V.int) vs → ReadsAll h vs (ns.map PyData.int) []
  | [], [], _ => .nil
  | v :: vs, n :: ns, r => by
    cases r with
    | cons r1 r2 =>
      obtain ⟨t, rfl⟩ := r1
      exact .cons (.int n t) (reads_ints r2)
  | [], _ :: _, r => by cases r
  | _ :: _, [], r => by cases r
theorem kt_keys {H : Hp} {kvs : List (List Key × V)} {xs : List (List Key × Addr × Value)} (r : KT H kvs xs) : kvs.map (·.1) = xs.map (·.1) := by
  induction r with
  | nil => rfl
  | cons h _ ih => rw [List.map_cons, List.map_cons, h.1, ih]
section
variable {X : Cx}
theorem cr_sortT (hc : X.calm = true) (hu : X.A.units + 64 < cLine) : CallR X (.builtin "sorted") rSortT := by
  intro pins s σ H vs us Q I r h
  obtain ⟨d, kvs, ks, rfl, hd, hk, hne, hlim, q⟩ := h
  rw [Vals.ref1 r]
  obtain ⟨z, hs, xs, pr, o, es, ep, ho, hx, hdt, he, hn⟩ := (show ObjOk X.prog X.w H s.heap d (.dT kvs) from I.hok d _ hd)
  have l1 : es.size = xs.length := size_of_entries he
  have l2 : kvs.length = xs.length := Paired.length pr
  have l3 : xs.length = ks.length := by have := congrArg List.length hk; simpa [keyT, l2] using this
  have hxs : xs.map (·.1) = keyT ks := (kt_keys pr).symm.trans hk
  refine Calls.call_function_entry PyProof.Rows.kind_sorted PyProof.Rows.plain_sorted PyProof.Rows.entry_sorted (PyProof.Rows.args_sorted1 _) ?_
  unfold Builtin.«sorted»
  refine wpAny_bind (m := checkCount "sorted" 1 1 _) (wpAny_pure ?_)
  refine wpAny_bind (PySem.W.kdu_collect (A := X.A.in1) (kdl_raw hs hx hdt) (I.ok.hd hc) ho (by rw [l1, l3]; exact lim_line hlim) fun h' tk acc kp it => ?_)
  have ea : acc.toList = xs.map fun x => Value.ref x.2.1 := by
    have hl : acc.toList.length = xs.length := by rw [Array.length_toList, it.1]; exact l1
    apply List.ext_getElem?
    intro j
    rw [List.getElem?_map]
    cases hj : acc.toList[j]? with
    | none =>
      have h1 := List.getElem?_eq_none_iff.mp hj
      rw [List.getElem?_eq_none (by omega)]; rfl
    | some v =>
      obtain ⟨en, hen, hv⟩ := it.2 j v (by rw [← Array.getElem?_toList]; exact hj)
      have qe := entry_at he j
      rw [hen] at qe
      cases hb : xs[j]? with
      | none => rw [hb] at qe; cases qe
      | some b =>
        rw [hb] at qe
        have e2 : en = entryOfKey (tupleKind (mixKind X.prog X.w)) b := Option.some.inj qe
        rw [hv, e2]; rfl
  have I1 : Inv X pins σ H { s with heap := h', toks := tk } := I.kept kp
  have hal : acc.toList.length = ks.length := by rw [ea, List.length_map, l3]
  refine wpAny_bind (wpAny_newList ?_ (by rw [hal]; exact lim_line hlim))
  obtain ⟨h2, eh2⟩ : ∃ h2, h2 = h'.push (seqObj "list" acc.toList.toArray 0) := ⟨_, rfl⟩
  have hoL : h2.get? h'.objs.size = some (seqObj "list" acc.toList.toArray 0) := by rw [eh2]; exact Heap.get?_push_size _ rfl
  show wpAny _ _ _ _ _ { s with heap := h'.push (seqObj "list" acc.toList.toArray 0), toks := tk }
  rw [← eh2]
  have k2 : ∀ b u, h'.get? b = some u → h2.get? b = some u := fun b u e => by rw [eh2]; exact Heap.get?_push_of_some _ e
  -- what the keys read as
  have each : ∀ {xs : List (List Key × Addr × Value)} {kvs : List (List Key × V)} {ks : List (List Int)}, KT H kvs xs → xs.map (·.1) = keyT ks →
      EachIs (fun u k => (∃ b, u = Value.ref b ∧ H b = some (.tup (k.map V.int))) ∧ Reads h2 u (keyP k) []) (xs.map fun x => Value.ref x.2.1) ks := by
    intro xs
    induction xs with
    | nil => intro kvs ks _ e; cases ks with
      | nil => exact .nil
      | cons k r => cases e
    | cons x xs ih => intro kvs ks pr e; cases ks with
      | nil => cases e
      | cons k r =>
        cases pr with
        | cons p1 p2 =>
          have e' : x.1 :: xs.map (·.1) = (k.map Sum.inl : List Key) :: keyT r := e
          injection e' with e1 e2
          have hb : H x.2.1 = some (.tup (k.map V.int)) := by rw [p1.2.1, p1.1, e1, kV_inl]
          refine .cons ⟨⟨_, rfl, hb⟩, ?_⟩ (ih p2 e2)
          obtain ⟨_, its, rv, ob, g1, g2, n, g3⟩ := I1.hok _ _ hb
          exact .tuple (k2 _ _ g1) g2 g3 (reads_ints rv)
  have E := each pr hxs
  rw [← ea] at E
  have hall : ∀ k, k ∈ ks → ∃ x r, k = x :: r := fun k hk' => by
    have := List.all_eq_true.mp hne k hk'
    cases k with
    | nil => cases this
    | cons x r => exact ⟨x, r, rfl⟩
  refine wpAny_bind (wpAny_holding (PySem.W.list_sort_data (β := List Int) (enc := keyP) (R := fun u k => (∃ b, u = Value.ref b ∧ H b = some (.tup (k.map V.int))) ∧ Reads h2 u (keyP k) []) (bs := ks) hoL E (E.mono fun u k h => ⟨[], h.2, by simp⟩)
    (AllAlike.of fun k k' => by simp only [keyP, alike]; exact PySem.W.alike_ints k k') (.inl fun d hd => ?_) (lim_line hlim) (fun k hk' => ?_) fun out h1 h3 => ?_))
  · obtain ⟨k, hk', rfl⟩ := List.mem_map.mp hd
    obtain ⟨x, r, rfl⟩ := hall k hk'
    exact ⟨.int x, r.map .int, rfl⟩
  · show X.A.in1.units + 1 + (keyP k).depth < cLine
    have : (keyP k).depth = 1 := by simp [keyP, PyData.depth, PySem.W.depth_ints]
    rw [this]
    show X.A.units + 1 + 1 + 1 < cLine
    omega
  · have bk : ∀ {us : List Value} {zs : List (List Int)}, EachIs (fun u k => (∃ b, u = Value.ref b ∧ H b = some (.tup (k.map V.int))) ∧ Reads h2 u (keyP k) []) us zs → ∃ bs, Vals (bs.map V.ref) us ∧ KeyAt H bs zs := by
      intro us zs e
      induction e with
      | nil => exact ⟨[], .nil, .nil⟩
      | cons h _ ih =>
        obtain ⟨bs, r1, r2⟩ := ih
        obtain ⟨⟨b, rfl, hb⟩, _⟩ := h
        exact ⟨b :: bs, .cons rfl r1, .cons hb r2⟩
    obtain ⟨bs, rv, kat⟩ := bk h3
    obtain ⟨e', he'⟩ := PyProof.Rows.sortedHeap_at (vs := acc.toList) (out := out.toArray) hoL
    have hlen : (bs.map V.ref).length ≤ sizeLine := by rw [Vals.length rv, h1]; exact lim_line hlim
    refine wpAny_pure ⟨_, rfl, .ref h'.objs.size, upd H h'.objs.size (.lst (bs.map V.ref)), I1.laid (t' := tk) (fun b u e => ?_) (Nat.le_refl _) (show ObjOk X.prog X.w _ _ _ (.lst (bs.map V.ref)) from ⟨hlen, out, e', rv, he'⟩), rfl, q bs _ kat (I1.hok.fresh (Nat.le_refl _))⟩
    have hb : b < h'.objs.size := Heap.lt_size e
    rw [PyProof.Rows.sortedHeap_old (Nat.ne_of_lt hb) (by rw [eh2, size_push']; exact Nat.lt_succ_of_lt hb)]
    exact k2 b u e
abbrev rSortA (K : PySem.W.Frag) : List V → Hp → VK → Prop := fun xs H Q => rSortL K xs H Q ∨ rSortT xs H Q
theorem cr_sort (hc : X.calm = true) (hu : X.A.units + 64 < cLine) : CallR X (.builtin "sorted") (rSortA X.K) := (cr_sortL hu).or (cr_sortT hc hu)
end
section
variable {K : PySem.W.Frag} {B : Bs} {σ : L2.St} {H : Hp} {s : Sx}
theorem freezeKeys : ∀ {bs : List Addr} {ks : List (List Int)} {W : Wd}, KeyAt H bs ks → StOk K B W s σ H → ∃ W', W.Le W' ∧ StOk K B W' s σ H ∧ Reps K W' (bs.map V.ref) (ks.map keyD)
  | _, _, W, .nil, st => ⟨W, Wd.Le.refl W, st, .nil⟩
  | b :: bs, k :: ks, W, .cons h t, st => by
    obtain ⟨l1, st1⟩ := st.freezeTup h
    obtain ⟨W2, l2, st2, r2⟩ := freezeKeys t st1
    exact ⟨W2, l1.trans l2, st2, .cons (.tup (l2.F _ _ upd_same) (reps_ints k)) r2⟩
theorem ou_sorted : OpU K (fun x H Q => rSortA K [x] H Q) oSorted := by
  intro B W s σ H E x dx sv Q st rx e p
  have goD : ∀ (a : Addr) (kvs : List (List Key × V)) (ks : List (List Int)), H a = some (.dT kvs) → kvs.map (·.1) = keyT ks → (if (ks.all fun k => !k.isEmpty) = true ∧ ks.length ≤ lim then some (SV.own ((sortK ks).map keyD)) else none) = some sv → rSortA K [.ref a] H Q := fun a kvs ks h hk e => by
    split at e
    · rename_i h2
      cases e
      refine .inr ⟨a, kvs, ks, rfl, h, hk, h2.1, h2.2, fun bs q kat hq => ?_⟩
      obtain ⟨W', l, st', r⟩ := freezeKeys kat st
      exact (Pst.mono l p).newLst st' r q hq
    · cases e
  cases dx with
  | lst ds =>
    simp only [oSorted] at e
    split at e
    · rename_i h
      cases e
      obtain ⟨a, vs, rfl, h1, r⟩ := rx.lst st.sub
      exact .inl ⟨W, a, vs, ds, rfl, st.sub, .of h1, r, h, fun ys q ry hq => p.newLst st ry q hq⟩
    · cases e
  | dct ks vs =>
    cases rx with
    | ownD h hk r => exact goD _ _ _ h hk e
    | rep r =>
      cases r with
      | dct h hk r => exact goD _ _ _ (st.sub _ _ h) hk e
  | _ => exact nn e
end
end DL
/-! The data layer, part 15: caught exceptions. -/
namespace DL
open PySem PySem.Spec PyProof.Rows L2

/-- a thing that was not tracked is tracked from now on -/
theorem Inv.track {X : Cx} {pins : List (Addr × Obj)} {σ : L2.St} {H : Hp} {s : Shared} {a : Addr} {o : HO} {oe : Obj} (I : Inv X pins σ H s) (na : H a = none) (nL : a ≠ X.env.locals) (ge : s.heap.get? a = some oe) (nc : ∀ v, oe.data ≠ .cell v)
    (n0 : X.s_0.heap.get? a = none) (np : ∀ p ∈ X.pn ++ pins, p.1 ≠ a) (ok : ObjOk X.prog X.w (upd H a o) s.heap a o) : Inv X pins σ (upd H a o) s := by
  have ne : ∀ b u, H b = some u → b ≠ a := fun b u e z => by rw [z, na] at e; cases e
  have up : ∀ b u, H b = some u → upd H a o b = some u := fun b u e => by rw [upd_ne (ne b u e)]; exact e
  have B := I.base
  refine ⟨I.ok, I.os, I.bare, ⟨B.keep, B.slot, fun b ob e n hx => ?_, B.there, fun b xs e => up _ _ (B.tups b xs e), fun b ob u e => up _ _ (B.frzs b ob u e), fun b ps e => ?_⟩, I.loc, I.cell, ?_, fun x c e => ?_, fun p hp => ?_, fun b u e => ?_, I.len⟩
  · rw [upd_ne]
    · exact B.free b ob e n hx
    · rintro rfl; rw [n0] at e; cases e
  · obtain ⟨m, q⟩ := B.tbls b ps e
    exact ⟨m, up _ _ q⟩
  · rw [upd_ne (Ne.symm nL)]; exact I.free
  · rw [upd_ne]
    · exact I.freeC x c e
    · rintro rfl
      obtain ⟨v, o', g1, g2⟩ := I.cell x _ e
      rw [ge] at g1; cases g1
      rcases g2 with g2
      exact nc _ (by first | exact g2.2 | exact g2.1 | exact g2)
  · obtain ⟨e, n, r⟩ := I.pin p hp
    exact ⟨e, by rw [upd_ne (np p hp)]; exact n, r⟩
  · by_cases hb : b = a
    · subst hb; rw [upd_same] at e; cases e; exact ok
    · rw [upd_ne hb] at e
      exact (I.hok b u e).stay (fun _ _ _ q => q) (fun c q => up _ _ q) fun c xs q => up _ _ q
theorem excAt_ok {P : Program} {w : World} {H : Hp} {h : Heap} {a C : Addr} {oe : Obj} (J : PySem.W.InstAt h a oe C none) (ge : h.get? a = some oe) : ObjOk P w H h a (.ext (ExcAt a C)) := by
  refine ⟨⟨oe, J⟩, ⟨oe, ge⟩, fun h1 h2 x k => ?_⟩
  obtain ⟨o1, x1, x2, x3, x4⟩ := x
  refine ⟨o1, k _ x1, x2, x3, ?_⟩
  cases hd : o1.dict with
  | none => trivial
  | some d => rw [hd] at x4; exact x4.elim
/-- what the clause 'except x as n' wishes of an exception of the body, its object being tracked behind it -/
def wKeep (K : PySem.W.Frag) (c : Value) (len i : Nat) (ts : Addr → TS) (Wout : WX) (D : Ends) : WX := fun cls d σ H =>
  ∃ b C, cls = .ref C ∧ d = none ∧ PySem.W.exmOne K cls c = some b ∧ (b = true → σ.length = len → ∀ a, H a = none → ts a { nx := fun σ' H' => D.nx (σ'.set i none) (upd H' a (.ext (ExcAt a C))), rt := fun _ _ => False, bk := fun _ _ => False, ct := fun _ _ => False } (σ.set i (some (.ref a))) H) ∧
    (b = false → Wout cls d σ H)
section
variable {X : Cx} {x n : Str} {c : Value} {i : Nat} {body suite : List Stmt} {b₀ : Stmt} {np pos pos' : Pos} {tb : WX → TS} {ts : Addr → TS} {Wout : WX}
theorem ps_keep (hs : X.stack = X.env :: X.outer) (hf : X.env.frame = some X.env.locals) (hex : X.ex = []) (hN : X.N.Nodup) (hi : X.N[i]? = some n) (hln : X.env.kindOf n = some .local) (hc : Names X x c) (tk : Takes X Wout)
    (hb : ∀ (W : WX) (pn : List (Addr × Obj)) (xe : Value → Shared → Prop), Takes (X.tr pn xe) W → PassesOwn (model X.prog X.w) X.A X.env xe → PSs (X.tr pn xe) body (tb W))
    (hsu : ∀ (a : Addr) (pn : List (Addr × Obj)), PSs (X.suite a pn) (b₀ :: suite) (ts a)) :
    PS X (.Try body [.ExceptHandler (some (.Name x np)) (some n) (b₀ :: suite) pos'] [] [] pos) (fun D σ H => tb (wKeep X.K c X.N.length i ts Wout D) D σ H) := by
  refine ⟨fun pins s σ H D I h => ?_⟩
  have ok := I.ok
  have hfr : X.A.frames = some (X.env :: X.outer) := by rw [ok.frames, hs]
  refine wpAny_Try_except ?_
  have hB := hb (wKeep X.K c X.N.length i ts Wout D) (X.pn ++ pins) (fun e s₁ => wpAny (model X.prog X.w) X.A (noteFrame e X.env) (fun _ s₂ => wpAny (model X.prog X.w) X.A (setFlight e none) (fun _ s₃ => wpAny (model X.prog X.w) X.A (handleBy e X.env [.ExceptHandler (some (.Name x np)) (some n) (b₀ :: suite) pos']) (SP X pins D) X.xe s₃) X.xe s₂) X.xe s₁)
  refine wpAny_mono ((hB (fun u s' xx => ?_) PassesOwn.looking).run [] s σ H D (I.toTry _) h) (fun f s1 hsp => ?_) (fun e s1 he => he)
  · obtain ⟨a, B, sI, pins', σ', H', cls, d, rfl, J', nb, up, sky, na, os, ag, b, C, ecls, ed, hb1, hyes, hno⟩ := xx
    have J : Inv X pins σ' H' sI := J'.ofTry ok
    have sky' : Sky B (X.env :: X.outer) a (Zc cls d) X.env.locals s'.heap := hs ▸ sky
    show wpAny (model X.prog X.w) X.A (noteFrame (.ref a) X.env) _ _ _
    refine Sky.land Zc.steady hfr hf sky' fun h3 fl3 up3 => ?_
    have J3 : Inv X pins σ' H' { s' with heap := h3 } := J.landed nb fl3.1 (up.trans up3) os ag
    obtain ⟨oe3, vs3, he3, hz3, hd3⟩ := fl3.there
    have nfr : a ∉ frs (X.env :: X.outer) := fun hm => by
      obtain ⟨_, o', e', hnf⟩ := fl3.2.2.1.mem hm
      rw [he3] at e'; cases e'
      exact hnf _ hd3
    have nL : a ≠ X.env.locals := fun z => nfr (List.mem_filterMap.mpr ⟨X.env, List.mem_cons_self, by rw [hf, z]⟩)
    have nF : a ∉ X.fs := fun hm => by
      obtain ⟨e, he, q⟩ := List.mem_filterMap.mp hm
      exact nfr (List.mem_filterMap.mpr ⟨e, List.mem_cons_of_mem _ he, q⟩)
    have nB : ∀ b o, sI.heap.get? b = some o → b ∉ frs (X.env :: X.outer) → b ≠ a := fun b o e hm z => by
      have q := nb b o e (by rw [hs]; exact hm)
      rw [z, fl3.2.1] at q; cases q
    have n0 : X.s_0.heap.get? a = none := by
      cases e : X.s_0.heap.get? a with
      | none => rfl
      | some o =>
        obtain ⟨o', q⟩ := J.base.there a o e (by rw [hex]; simp)
        exact absurd rfl (nB a o' q nfr)
    have npp : ∀ p ∈ X.pn ++ pins, p.1 ≠ a := fun p hp => by
      obtain ⟨e, _, l, f, _⟩ := J.pin p hp
      refine nB p.1 p.2 e fun hm => ?_
      obtain ⟨en, he, q⟩ := List.mem_filterMap.mp hm
      rcases List.mem_cons.mp he with rfl | he
      · rw [hf] at q; exact l (Option.some.inj q).symm
      · exact f (List.mem_filterMap.mpr ⟨en, he, q⟩)
    have S3 := J3.suite he3 hd3 na nL nF
    refine wpAny_handleBy_cons (codeAny_handlers_test ?_) (by intro q; cases q)
    have LT : PySem.W.Looks (model X.prog X.w) h3 (typeOf (.ref a)) cls := fun A Q E s k q => wpAny_typeOf_ref (k _ _ he3) (by rw [hz3.1]; exact q)
    have LM := PySem.W.exm_one (M := model X.prog X.w) (J3.kIn) LT hb1
    obtain ⟨hg, hdbg, hm⟩ := hc
    have test : ∀ {Q : Value → Shared → Prop} {E : Value → Shared → Prop}, Q c { s' with heap := h3 } → wpAny (model X.prog X.w) (X.A.mark (some (.ref a))) (eval (.Name x np) X.env) Q E { s' with heap := h3 } := fun {Q E} q => by
      rcases hm with hm | ⟨hm, hv, hnn⟩
      · exact ld_glob (X := X.suite a ((a, oe3) :: (X.pn ++ pins))) S3 hg hm q hdbg
      · exact ld_blt (X := X.suite a ((a, oe3) :: (X.pn ++ pins))) S3 hg hm hv q hnn hdbg
    refine test (LM.here ?_)
    cases b with
    | true =>
      refine codeAny_handlers_suite_as (HandSPX.lands_againZ fl3 fun h4 fl4 up4 => ?_)
      have J4 : Inv X pins σ' H' { s' with heap := h4 } := J.landed nb fl4.1 ((up.trans up3).trans up4) os ag
      obtain ⟨oe4, vs4, he4, hz4, hd4⟩ := fl4.there
      have S4 := J4.suite he4 hd4 na nL nF
      refine store_ok (X := X.suite a ((a, oe4) :: (X.pn ++ pins))) (v := .ref a) S4 hN hi (.inl hln) rfl (fun s5 S5 => ?_) (.inr hln)
      refine wpAny_mono ((hsu a ((a, oe4) :: (X.pn ++ pins))).run [] s5 _ H' _ S5 (hyes rfl J.len a na)) (fun f s6 hsp => ?_) (fun _ _ z => False.elim z)
      cases f with
      | next =>
        obtain ⟨σ6, H6, S6, q6⟩ := hsp
        obtain ⟨g6, n6, _⟩ := S6.pin (a, oe4) (List.mem_append.mpr (.inl List.mem_cons_self))
        have J6 : Inv X pins σ6 H6 s6 := S6.unsuite ok
        have inst : PySem.W.InstAt s6.heap a oe4 C none := by
          obtain ⟨oc, od, oda, osl⟩ := oe4
          obtain ⟨h1, h2⟩ := hz4
          dsimp only at h1 h2 hd4
          subst ecls ed h1 h2 hd4
          exact ⟨g6, rfl, rfl, trivial⟩
        have T6 : Inv X pins σ6 (upd H6 a (.ext (ExcAt a C))) s6 := Inv.track J6 n6 nL g6 (fun v z => by rw [hd4] at z; cases z) n0 npp (excAt_ok inst g6)
        exact gone_ok T6 hN hi hln fun s7 J7 => ⟨_, _, J7, q6⟩
      | brk =>
        obtain ⟨σ6, H6, S6, q6⟩ := hsp
        exact q6.elim
      | cont =>
        obtain ⟨σ6, H6, S6, q6⟩ := hsp
        exact q6.elim
      | ret u =>
        obtain ⟨v6, σ6, H6, S6, r6, q6⟩ := hsp
        exact q6.elim
    | false =>
      show wpAny _ X.A (handleBy (.ref a) X.env []) _ _ _
      refine wpAny_handleBy_nil ?_
      obtain ⟨k1, k2, k3, oe, vs, T, oT, ts', he, hz, hd, h1, hr⟩ := id fl3
      unfold PySem.passOn
      refine wpAny_bind (wpAny_field he hd h1 ?_)
      rw [if_neg (show ¬ ((Value.ref T == Value.none) = true) from by simp)]
      have fin : wpAny (model X.prog X.w) X.A (setFlight (.ref a) X.env.frame) (fun _ s4 => wpAny (model X.prog X.w) X.A (throw (.ref a) : Sem Flow) (SP X pins D) X.xe s4) X.xe { s' with heap := h3 } := by
        rw [hf]
        refine HandSPX.setFlight_upZ fl3 fun h4 hh4 up4 => wpAny_throw (tk _ _ ?_)
        exact ⟨a, B, sI, pins, σ', H', cls, d, rfl, J, nb, (up.trans up3).trans up4, .inr (.inr (hs ▸ hh4)), na, os, ag, hno rfl⟩
      first
        | exact wpAny_bind (wpAny_pure (wpAny_bind fin))
        | exact wpAny_bind fin
  · cases f with
    | next =>
      obtain ⟨σ', H', J', q⟩ := hsp
      exact wpAny_execs_nil ⟨σ', H', J'.ofTry ok, q⟩
    | brk =>
      obtain ⟨σ', H', J', q⟩ := hsp
      exact ⟨σ', H', J'.ofTry ok, q⟩
    | cont =>
      obtain ⟨σ', H', J', q⟩ := hsp
      exact ⟨σ', H', J'.ofTry ok, q⟩
    | ret u =>
      obtain ⟨v, σ', H', J', r, q⟩ := hsp
      exact ⟨v, σ', H', J'.ofTry ok, r, q⟩
end

/-! ### the den of such a try -/
theorem StOk.fill {K : PySem.W.Frag} {B : Bs} {W : Wd} {M : List MO} {H : Hp} {ρ : List (Option SV)} {σ : L2.St} (st : StOk K B W ⟨[], M⟩ [] H) (hs : ∀ (i : Nat) (sv : SV), ρ[i]? = some (some sv) → ∃ v, σ[i]? = some (some v) ∧ SvOk K W H (.slot i) 0 sv v) (hl : σ.length = ρ.length) :
    StOk K B W ⟨ρ, M⟩ σ H := ⟨st.sub, st.fl, st.lh, hs, st.objs, st.keep, st.fext, st.fnew, st.mmx, st.mml, st.ob, hl, st.hold⟩
def roadNames : List Str := ["InvalidNet", "InvalidPair", "InvalidRouting", "InvalidDemands", "InvalidNumber", "InvalidShare", "InvalidTree", "InvalidLine", "InvalidNames", "InvalidMost", "InvalidText", "NotJoined", "TooMany", "NothingToUndo"]
def dCatch (len j : Nat) (body : DS) : DS := fun s => match body s with
  | .exc C M => if C ∈ roadNames then .ok .nx ⟨(List.replicate len none).set j (some (.val (.exc C))), M⟩ else .bad
  | r => r
/-- what the text says of its exception classes -/
def excC (K : PySem.W.Frag) (D : Addr) : Bool := decide (PySem.W.findIn K (.ref D) "__getattribute__" = some (some (.builtin "BaseException.__getattribute__"))) && (decide (PySem.W.findIn K (.ref D) "__getattr__" = some none) && (decide (PySem.W.subIn K (.ref D) (.type "BaseException") = some true) && (PySem.W.hasDictIn K D &&
  (decide (PySem.W.findIn K (.ref D) "__class__" = some (some (.builtin "object.__class__"))) && (decide (PySem.W.specialIn K (.builtin "object.__class__") "__get__" = some (some (.builtin "getset_descriptor.__get__"))) && (decide (PySem.W.takesIn K (.builtin "object.__class__") = some true) && decide (PySem.W.mroIn K D (.type "object") = some true)))))))
theorem excC_ok {K : PySem.W.Frag} {D : Addr} (h : excC K D = true) : ExcC K D := by
  unfold excC at h
  simp only [Bool.and_eq_true, decide_eq_true_eq] at h
  obtain ⟨h1, h2, h3, h4, h5, h6, h7, h8⟩ := h
  exact ⟨h1, h2, h3, h4, h5, h6, h7, h8⟩
def isX (C T : Str) : Bool := decide (C = T)
def excB (K : PySem.W.Frag) : Bool := roadNames.all fun C => excC K (He.ga K C) && (decide (PySem.W.kitOne K (.ref (He.ga K C)) (.type "ValueError") = some true) && (decide (PySem.W.exmOne K (.ref (He.ga K C)) (.ref (He.ga K "RoadError")) = some true) &&
  roadNames.all fun T => decide (PySem.W.kitOne K (.ref (He.ga K C)) (.ref (He.ga K T)) = some (isX C T))))
theorem excB_ok {K : PySem.W.Frag} (h : excB K = true) {C : Str} (hC : C ∈ roadNames) : ExcC K (He.ga K C) ∧ PySem.W.kitOne K (.ref (He.ga K C)) (.type "ValueError") = some true ∧ PySem.W.exmOne K (.ref (He.ga K C)) (.ref (He.ga K "RoadError")) = some true ∧
    ∀ T, T ∈ roadNames → PySem.W.kitOne K (.ref (He.ga K C)) (.ref (He.ga K T)) = some (isX C T) := by
  have h1 := List.all_eq_true.mp h C hC
  rw [Bool.and_eq_true, Bool.and_eq_true, Bool.and_eq_true] at h1
  obtain ⟨a, b, c, d⟩ := h1
  exact ⟨excC_ok a, of_decide_eq_true b, of_decide_eq_true c, fun T hT => of_decide_eq_true (List.all_eq_true.mp d T hT)⟩
section
variable {X : Cx} {E : XK} {n y : Str} {i j len : Nat} {body : List Stmt} {db : DS} {np pn py pos pos' pos2 : Pos}
theorem sns_catch (hx : excB X.K = true) (hs : X.stack = X.env :: X.outer) (hf : X.env.frame = some X.env.locals) (hex : X.ex = []) (hfn : X.fn = fun _ => true) (hN : X.N.Nodup) (hi : X.N[i]? = some n) (hj : X.N[j]? = some y) (hlen : X.N.length = len) (hij : i ≠ j) (hln : X.env.kindOf n = some .local) (hy : Loc X.env.scope y)
    (hg : Gl X "RoadError") (hm : X.mg "RoadError" = some (.ref (He.ga X.K "RoadError"))) (tk : Takes X (fun cls d _ H => E cls d H))
    (hb : ∀ (E' : XK) (pn : List (Addr × Obj)) (xe : Value → Shared → Prop), Takes (X.tr pn xe) (fun cls d _ H => E' cls d H) → PassesOwn (model X.prog X.w) X.A X.env xe → SndB (X.tr pn xe) E' body db)
    (hv : ∀ (a : Addr) (pn : List (Addr × Obj)), PE (X.suite a pn) (.Name n pn') (tVar i))
    (hsw : ∀ (a : Addr) (pn : List (Addr × Obj)), swapsWith (.Name n pn') (some (.Name y py)) pos2.line (X.suite a pn).env = pure false) :
    SndS X E (.Try body [.ExceptHandler (some (.Name "RoadError" np)) (some n) [.Assign [.Name y py] (.Name n pn') pos2] pos'] [] [] pos) (dCatch len j db) := by
  have hc : Names X "RoadError" (.ref (He.ga X.K "RoadError")) := ⟨hg, by decide, .inl hm⟩
  refine ⟨fun B => PS.imp (ps_keep (c := .ref (He.ga X.K "RoadError")) (i := i) (tb := fun W D σ H => ∃ E' : XK, (∀ cls d σ H, E' cls d H → W cls d σ H) ∧ TS' X.K B E' db D σ H) (ts := fun a => tAsg (tVar i) (gName j)) hs hf hex hN hi hln hc tk (fun W pn xe tk' hp => ⟨fun pins s σ H D I q => ?_⟩)
    (fun a pn => pss_one (ps_set (X := X.suite a pn) hN hj hy (hv a pn) (hsw a pn) (.inl (by show X.fn y = true; rw [hfn]))))) fun D σ H q => ?_⟩
  · obtain ⟨E', hW, q⟩ := q
    exact ((hb E' pn xe (tk'.imp fun c d σ H h => hW c d σ H h) hp).h B).run pins s σ H D I q
  · obtain ⟨W, s, st, p⟩ := q
    unfold dCatch at p
    cases e : db s with
    | ok f s1 =>
      rw [e] at p
      refine ⟨fun _ _ _ => False, fun _ _ _ _ z => z.elim, W, s, st, ?_⟩
      rw [e]
      cases f <;> exact p
    | bad => rw [e] at p; exact p.elim
    | exc C M =>
      rw [e] at p
      dsimp only at p
      split at p
      · rename_i hC
        obtain ⟨_, _, hexm, _⟩ := excB_ok hx hC
        refine ⟨fun cls d H => cls = .ref (He.ga X.K C) ∧ d = none ∧ ∃ W', W.Le W' ∧ StOk X.K B W' ⟨[], M⟩ [] H, fun cls d σ2 H2 z => ?_, W, s, st, ?_⟩
        · obtain ⟨rfl, rfl, W', l, st'⟩ := z
          refine ⟨true, He.ga X.K C, rfl, rfl, hexm, fun _ hl a na => ?_, fun z => by cases z⟩
          have hiN : i < σ2.length := by rw [hl]; exact (List.getElem?_eq_some_iff.mp hi).1
          have hjN : j < σ2.length := by rw [hl]; exact (List.getElem?_eq_some_iff.mp hj).1
          refine ⟨.ref a, List.getElem?_set_self hiN, ?_⟩
          obtain ⟨l2, st2⟩ := st'.frozen (o := .ext (ExcAt a (He.ga X.K C))) na
          refine p _ _ _ (l.trans l2) (st2.fill (fun m sv em => ?_) ?_)
          · by_cases q : j = m
            · subst q
              rw [List.getElem?_set] at em
              split at em
              · split at em
                · cases em
                  refine ⟨.ref a, ?_, Rep.exc upd_same⟩
                  rw [List.getElem?_set_ne hij, List.getElem?_set_self (by simpa using hjN)]
                · cases em
              · exact absurd rfl (by assumption)
            · rw [List.getElem?_set_ne q, List.getElem?_replicate] at em
              split at em <;> cases em
          · rw [List.length_set, List.length_set, List.length_set, List.length_set, List.length_replicate, hl, hlen]
        · rw [e]
          exact fun H' W' l st' => ⟨rfl, rfl, W', l, st'⟩
      · exact p.elim
end
end DL
/-! The data layer, part 16: isinstance of a caught exception; the hook of the head. -/
namespace DL
open PySem PySem.Spec PyProof.Rows L2

def rIsX (K : PySem.W.Frag) : List V → Hp → VK → Prop := fun xs H Q => ∃ (a C : Addr) (c : V) (cv : Value) (b : Bool), xs = [.ref a, c] ∧ H a = some (.ext (ExcAt a C)) ∧ ExcC K C ∧ (∀ u, RelV c u → u = cv) ∧ PySem.W.kitOne K (.ref C) cv = some b ∧ Q (.bl b) H
theorem cr_isX {X : Cx} : CallR X (.builtin "isinstance") (rIsX X.K) := by
  intro pins s σ H xs us Q I r h
  obtain ⟨a, C, c, cv, b, rfl, hH, hC, hcv, e, q⟩ := h
  cases r with
  | cons rx rr =>
    cases rr with
    | cons rt rr =>
      cases rr
      cases rx
      have ec := hcv _ rt
      subst ec
      obtain ⟨⟨oe, J⟩, _, _⟩ := (show ObjOk X.prog X.w H s.heap a (.ext (ExcAt a C)) from I.hok a _ hH)
      exact PySem.W.kia_one (PySem.W.handS_kitx_exc hC.hg hC.hk hC.hs hC.hd hC.ha hC.hn hC.ht hC.hm) I.kIn J e (fun z => nomatch z) fun tk => ⟨.bl b, H, I.kept (t' := tk) fun _ _ z => z, rfl, q⟩
/-- isinstance(x, T), x caught, T one of the classes (none: ValueError) -/
def dIsX (T : Option Str) (a : DE) : DE := fun s => (a s).bind fun x s1 => match frz x with
  | .exc C => if C ∈ roadNames then (match T with
    | some t => if t ∈ roadNames then .ok (.val (.bl (isX C t))) s1 else .bad
    | none => .ok (.val (.bl true)) s1) else .bad
  | _ => .bad
section
variable {X : Cx} {E : XK} {a : Expr} {da : DE} {pos p p2 : Pos} {T : Str}
theorem snd_isX (hx : excB X.K = true) (hg : Gl X "isinstance") (hm : X.mg "isinstance" = none) (hgT : Gl X T) (hmT : X.mg T = some (.ref (He.ga X.K T))) (ha : SndE X E a da) (hd : (T == ("__debug__" : Str)) = false := by decide)
    (he : starEach [a, .Name T p2] X.env = (false, eval a X.env) :: starEach [.Name T p2] X.env := by rfl) (he2 : starEach [.Name T p2] X.env = (false, eval (.Name T p2) X.env) :: starEach [] X.env := by rfl)
    (hpl : (backTo pos (starEach [.Name T p2] X.env)).any (·.1) = false := by rfl) : SndE X E (.Call (.Name "isinstance" p) [a, .Name T p2] [] pos) (dIsX (some T) da) := by
  refine ⟨fun B => PE.imp (pe_callB cr_isX hg hm (by decide +kernel) (pa_cons (ha.h B) (pa_cons (pe_glob (v := .ref (He.ga X.K T)) hgT hmT rfl hd) pa_nil he2) he) (by decide) (by decide) he hpl) fun σ H Q q => ?_⟩
  obtain ⟨W, s, st, pq⟩ := q
  refine Pst.seqD st pq fun v H1 W1 s1 x l st1 r1 p1 => ?_
  generalize frz x = d at r1 p1
  cases r1 with
  | @exc ad C h =>
    dsimp only at p1
    split at p1
    · rename_i hC
      split at p1
      · rename_i hT
        obtain ⟨c1, _, _, c2⟩ := excB_ok hx hC
        exact ⟨ad, _, .ref (He.ga X.K T), _, _, rfl, st1.sub _ _ h, c1, fun u hu => hu, c2 T hT, p1.one st1 (Rep.bl _)⟩
      · exact p1.elim
    · exact p1.elim
  | _ => exact p1.elim
theorem snd_isVE (hx : excB X.K = true) (hg : Gl X "isinstance") (hm : X.mg "isinstance" = none) (hgT : Gl X "ValueError") (hmT : X.mg "ValueError" = none) (ha : SndE X E a da)
    (he : starEach [a, .Name "ValueError" p2] X.env = (false, eval a X.env) :: starEach [.Name "ValueError" p2] X.env := by rfl) (he2 : starEach [.Name "ValueError" p2] X.env = (false, eval (.Name "ValueError" p2) X.env) :: starEach [] X.env := by rfl)
    (hpl : (backTo pos (starEach [.Name "ValueError" p2] X.env)).any (·.1) = false := by rfl) : SndE X E (.Call (.Name "isinstance" p) [a, .Name "ValueError" p2] [] pos) (dIsX none da) := by
  refine ⟨fun B => PE.imp (pe_callB cr_isX hg hm (by decide +kernel) (pa_cons (ha.h B) (pa_cons (pe_bltn (v := .ty "ValueError") hgT hmT (by decide +kernel) rfl (by decide) (by decide)) pa_nil he2) he) (by decide) (by decide) he hpl) fun σ H Q q => ?_⟩
  obtain ⟨W, s, st, pq⟩ := q
  refine Pst.seqD st pq fun v H1 W1 s1 x l st1 r1 p1 => ?_
  generalize frz x = d at r1 p1
  cases r1 with
  | @exc ad C h =>
    dsimp only at p1
    split at p1
    · rename_i hC
      obtain ⟨c1, c2, _, _⟩ := excB_ok hx hC
      exact ⟨ad, _, .ty "ValueError", _, _, rfl, st1.sub _ _ h, c1, fun u hu => hu, c2, p1.one st1 (Rep.bl _)⟩
    · exact p1.elim
  | _ => exact p1.elim
end

/-! ### the hook -/
abbrev AlX : Type := Bool × He.AlD
def obsX (fa : List He.Fa) (fn : List He.DefD) (K : PySem.W.Frag) : AlX := (excB K, He.obsD fa fn K)
def obsXG (n : Nat) (fa : List He.Fa) (fn : List He.DefD) (g : Addr → Option Obj) : AlX := obsX fa fn (He.frG g (He.asD g n))
def SaysX (fa : List He.Fa) (fn : List He.DefD) (K : PySem.W.Frag) : Prop := excB K = true ∧ He.SaysD fa fn K
def hookX (n : Nat) (fa : List He.Fa) (fn : List He.DefD) : PySem.W.Hook where
  α := AlX
  obs := fun s => obsXG n fa fn s.heap.get?
  val := fun _ => (true, He.valD fn)
  says := fun _ h => ∃ K : PySem.W.Frag, K.In h ∧ SaysX fa fn K
  of := fun _ _ e => ⟨_, He.frG_in, congrArg (fun z : AlX => z.1) e, congrArg (fun z : AlX => z.2) e⟩
  keeps := fun _ _ _ ⟨K, hK, c⟩ k => ⟨K, PySem.W.Frag.In.keeps hK k, c⟩
theorem obsXG_eq {n : Nat} {fa : List He.Fa} {fn : List He.DefD} {g : Addr → Option Obj} {s : Shared} (h : ∀ a, g a = s.heap.get? a) : obsXG n fa fn g = (hookX n fa fn).obs s := by
  have e : g = s.heap.get? := funext h
  rw [e]; rfl
end DL
/-! The data layer, part 17: small words for the printed proofs. -/
namespace DL
open PySem PySem.Spec PyProof.Rows L2
theorem hu0_of {A : Around} {k : Nat} (hr : Room k A) : A.units < cLine := by have := hr.un; omega
theorem hu65_of {A : Around} {k : Nat} (hr : Room k A) : A.units + 65 < cLine := by have := hr.un; omega
theorem tk_of {P : Program} {w : World} {K : PySem.W.Frag} {mg : Str → Option Value} {base : Heap} {N : List Str} {qual : Str} {scope : Scope} {f : Addr} {cd : Value} {A : Around} {outer : List Env} {s : Shared} {H : Hp} {E : XK} :
    Takes (cxOf (L2.CX P w) P w K mg base N qual scope f cd A outer s H E) (fun cls d _ H => E cls d H) := takes_of rfl rfl rfl rfl
section
variable {P : Program} {w : World} {K : PySem.W.Frag} {mg : Str → Option Value} {base : Heap} {x y qual : Str} {params : Arguments} {body : List Stmt} {scope : Scope} {fd : FuncData} {N ps : List Str} {k n : Nat} {db : DS}
theorem fn_ok' (F : FunD K y qual params body scope [] [] (He.ga K x) fd) (S : FnScope N ps scope)
    (hbody : ∀ (cdv : Value) (A : Around) (outer : List Env) (s : Shared) (H : Hp) (E : XK), Room k (A.deeper (envOfC qual scope s.heap.objs.size (He.ga K x) cdv)) →
      SndB (cxOf (L2.CX P w) P w K mg base N qual scope (He.ga K x) cdv A outer s H E) E body db) : FnOk P w K mg base (L2.CX P w) (k + 1) (He.ga K x) fd ps (spD K (runFn N.length db) ps.length) := by
  refine FunD.ok F S (fun vs H Q E h => ?_) fun cdv A outer s H vs Q E hr hsp => ?_
  · obtain ⟨_, _, _, _, h, _⟩ := h
    exact h
  · obtain ⟨B, W, M, ds, hl, st, r, p⟩ := hsp
    refine ⟨_, (hbody cdv A outer s H E hr).h B, W, initS N.length ds M, st.begin r, ?_⟩
    unfold runFn at p
    show PstS K B W E (db (initS N.length ds M)) _
    cases e : db (initS N.length ds M) with
    | ok f s1 =>
      rw [e] at p
      cases f with
      | nx => exact fun σ H' V l st1 => p .non H' V l st1.bare .non
      | rt sv => exact fun v H' V l st1 o => p v H' V l st1 o
      | bk => exact p.elim
      | ct => exact p.elim
    | exc C M => rw [e] at p; exact p
    | bad => rw [e] at p; exact p
theorem def_ok' (g : mg x = some (.ref (He.ga K x))) (F : FunD K y qual params body scope [] [] (He.ga K x) fd) (S : FnScope N ps scope) (hn : ps.length = n)
    (hb : ∀ (kV doc pm : Value) (an : Option Addr) (cdv ct : Value) (us : List Value), us.length = ps.length → bindArgs (PySem.W.fnOf y qual params body scope .none kV doc pm an cdv ct) ⟨us, []⟩ = pure (ps.zip us))
    (hbody : ∀ (cdv : Value) (A : Around) (outer : List Env) (s : Shared) (H : Hp) (E : XK), Room k (A.deeper (envOfC qual scope s.heap.objs.size (He.ga K x) cdv)) →
      SndB (cxOf (L2.CX P w) P w K mg base N qual scope (He.ga K x) cdv A outer s H E) E body db) : Def P w K mg base x (k + 1) n (runFn N.length db) := by
  subst hn
  exact ⟨g, ⟨fd, ps, rfl, fn_ok' F S hbody, F.bindsN hb⟩, F.kp⟩
end
theorem st_first {K : PySem.W.Frag} (H : Hp) : StOk K ⟨H, H, [], fun _ => False⟩ ⟨H, [], fun _ => none, []⟩ ⟨[], []⟩ [] H where
  sub := fun _ _ e => e
  fl := fun _ _ _ => rfl
  lh := fun _ _ e => nomatch e
  slots := fun j sv e => by simp at e
  objs := fun n mo e => by simp at e
  keep := fun _ _ e => .inr ⟨rfl, e⟩
  fext := fun _ _ e => e
  fnew := fun _ _ e => .inl e
  mmx := fun _ _ e => e
  mml := rfl
  ob := fun _ e => e.elim
  len := rfl
  hold := fun p hp => nomatch hp
theorem law_sp {K : PySem.W.Frag} {H : Hp} {a : Addr} {ns : List Int} {run : DL.Run} (hS : SqL K H a (ns.map V.int)) (h : ∃ s, run [.scr ns] [] = .ok (.val (.bl true)) s) : spD K run 1 [.ref a] H (fun v _ => v = .bl true) (fun _ _ _ => False) := by
  obtain ⟨s, e⟩ := h
  refine ⟨_, _, [], [.scr ns], rfl, st_first H, .cons (.scr hS) .nil, ?_⟩
  rw [e]
  intro v H' W' _ _ o
  cases o
  rfl
/-- the law's own def lets nothing out -/
theorem to0 {P : Program} {w : World} {K : PySem.W.Frag} {mg : Str → Option Value} {base : Heap} {k : Nat} {f : Addr} {fd : FuncData} {ps : List Str} {sp : Sp} (F : FnOk P w K mg base (L2.CX P w) k f fd ps sp) :
    FnOk P w K mg base L2.CX0 k f fd ps (fun vs H Q _ => sp vs H Q (fun _ _ _ => False)) := by
  refine ⟨fun vs H Q _ h => F.len _ _ _ _ h, fun A outer s H args us vs Q E hr he hb hv hs => codeAny_mono (F.run A outer s H args us vs Q (fun _ _ _ => False) hr he hb hv hs) fun r s' hq => ?_⟩
  cases r with
  | ok fl => cases fl <;> exact hq
  | error e =>
    obtain ⟨_, _, _, _, _, _, _, _, _, _, _, _, z⟩ := (show L2.CX P w outer H s (fun _ _ _ => False) e s' from hq)
    exact z.elim
theorem law_fin {P : Program} {K0 : PySem.W.Frag} {mg : Str → Option Value} {h : Heap} {k n : Nat} {run : DL.Run} (w : World) (KX : K0.In h) (hrun : ∀ ns : List Int, ns.length ≤ n → ∃ s, run [.scr ns] [] = .ok (.val (.bl true)) s)
    {body : List Stmt} {params : Arguments} {scope : Scope} {x : Str} {fd : FuncData} (F : FunD K0 "law" "law" params body scope [] [] (He.ga K0 "law") fd)
    (hb : ∀ (kV doc pm : Value) (an : Option Addr) (cdv ct : Value) (us : List Value), us.length = [x].length → bindArgs (PySem.W.fnOf "law" "law" params body scope .none kV doc pm an cdv ct) ⟨us, []⟩ = pure ([x].zip us))
    (D : ∀ base, FnOk P w K0 mg base (L2.CX P w) k (He.ga K0 "law") fd [x] (spD K0 run [x].length)) :
    ∃ (K : PySem.W.Frag) (fd : FuncData) (sp : Sp), K.In h ∧ (∀ (s : Shared) (u : Value), BindsTo s fd ⟨[u], []⟩ [(x, u)]) ∧
        (∀ (H : Hp) (a : Addr) (ns : List Int), ns.length ≤ n → Only H → SqL K H a (ns.map V.int) → sp [.ref a] H (fun v _ => v = .bl true) fun _ _ _ => False) ∧
        ∀ base : Heap, K.In base → base.Ns mainGlobals mg → FnOk P w K mg base L2.CX0 k (He.ga K0 "law") fd [x] sp :=
  ⟨K0, fd, fun vs H Q _ => spD K0 run 1 vs H Q (fun _ _ _ => False), KX, fun s u => F.bindsA hb s [u] rfl, fun _ _ ns hl _ hS => law_sp hS (hrun ns hl), fun base _ _ => to0 (D base)⟩
end DL
set_option Elab.async false
set_option linter.all false
set_option maxRecDepth 100000
set_option maxHeartbeats 0
namespace Hd
open PySem PySem.Spec PyProof.Rows L2
def top (i : Nat) : Stmt := PySem.Challenge.pw_roadshares_k82_whole_texts.main.body.getD i (.Pass ⟨0, 0, 0, 0⟩)
def fn : List He.DefD := [
  ⟨("is_between", none), "is_between", "is_between", defArgs (top 17), defBody (top 17), defScope (top 17), [], []⟩,
  ⟨("is_line", none), "is_line", "is_line", defArgs (top 19), defBody (top 19), defScope (top 19), [], []⟩,
  ⟨("is_joined", none), "is_joined", "is_joined", defArgs (top 20), defBody (top 20), defScope (top 20), [], []⟩,
  ⟨("is_net", none), "is_net", "is_net", defArgs (top 21), defBody (top 21), defScope (top 21), [], []⟩,
  ⟨("check_net", none), "check_net", "check_net", defArgs (top 22), defBody (top 22), defScope (top 22), [], []⟩,
  ⟨("net_text", none), "net_text", "net_text", defArgs (top 24), defBody (top 24), defScope (top 24), [], []⟩,
  ⟨("format_net", none), "format_net", "format_net", defArgs (top 25), defBody (top 25), defScope (top 25), [], []⟩,
  ⟨("number_of", none), "number_of", "number_of", defArgs (top 26), defBody (top 26), defScope (top 26), [], []⟩,
  ⟨("line_of", none), "line_of", "line_of", defArgs (top 27), defBody (top 27), defScope (top 27), [], []⟩,
  ⟨("parse_net", none), "parse_net", "parse_net", defArgs (top 28), defBody (top 28), defScope (top 28), [], []⟩,
  ⟨("_law_town", none), "_law_town", "_law_town", defArgs (top 30), defBody (top 30), defScope (top 30), [], []⟩,
  ⟨("_law_draw", none), "_law_draw", "_law_draw", defArgs (top 31), defBody (top 31), defScope (top 31), [], []⟩,
  ⟨("_law_pick", none), "_law_pick", "_law_pick", defArgs (top 32), defBody (top 32), defScope (top 32), [], []⟩,
  ⟨("_law_outcome", none), "_law_outcome", "_law_outcome", defArgs (top 33), defBody (top 33), defScope (top 33), [], []⟩,
  ⟨("_law_name", none), "_law_name", "_law_name", defArgs (top 34), defBody (top 34), defScope (top 34), [], []⟩,
  ⟨("_law_raises", none), "_law_raises", "_law_raises", defArgs (top 35), defBody (top 35), defScope (top 35), [], []⟩,
  ⟨("_law_pairs", none), "_law_pairs", "_law_pairs", defArgs (top 36), defBody (top 36), defScope (top 36), [], []⟩,
  ⟨("_law_net", none), "_law_net", "_law_net", defArgs (top 37), defBody (top 37), defScope (top 37), [], []⟩,
  ⟨("_law_call", none), "_law_call", "_law_call", defArgs (top 38), defBody (top 38), defScope (top 38), [], []⟩,
  ⟨("law", none), "law", "law", defArgs (top 39), defBody (top 39), defScope (top 39), [], []⟩]
def fa : List He.Fa := [.glo "RoadError", .glo "InvalidNet", .glo "InvalidPair", .glo "InvalidRouting", .glo "InvalidDemands", .glo "InvalidNumber", .glo "InvalidShare", .glo "InvalidTree", .glo "InvalidLine", .glo "InvalidNames", .glo "InvalidMost", .glo "InvalidText", .glo "NotJoined", .glo "TooMany", .glo "NothingToUndo", .glo "is_between", .glo "is_line", .glo "is_joined", .glo "is_net", .glo "check_net", .glo "net_text", .glo "format_net", .glo "number_of", .glo "line_of", .glo "parse_net", .glo "_law_town", .glo "_law_draw", .glo "_law_pick", .glo "_law_outcome", .glo "_law_name", .glo "_law_raises", .glo "_law_pairs", .glo "_law_net", .glo "_law_call", .glo "law", .exc "RoadError", .exc "InvalidNet", .exc "InvalidPair", .exc "InvalidRouting", .exc "InvalidDemands", .exc "InvalidNumber", .exc "InvalidShare", .exc "InvalidTree", .exc "InvalidLine", .exc "InvalidNames", .exc "InvalidMost", .exc "InvalidText", .exc "NotJoined", .exc "TooMany", .exc "NothingToUndo", .free "len", .free "range", .free "isinstance", .free "int", .free "bool", .free "tuple", .free "list", .free "all", .free "any", .free "sorted", .free "min", .free "max", .free "str", .free "enumerate", .free "zip", .free "sum", .free "set", .free "abs", .free "dict", .free "ValueError"]
def nm0 : List PySem.Str := ["RoadError", "InvalidNet", "InvalidPair", "InvalidRouting", "InvalidDemands", "InvalidNumber", "InvalidShare", "InvalidTree", "InvalidLine", "InvalidNames", "InvalidMost", "InvalidText", "NotJoined", "TooMany", "NothingToUndo", "is_between", "is_line", "is_joined", "is_net", "check_net", "net_text", "format_net", "number_of", "line_of", "parse_net", "_law_town", "_law_draw", "_law_pick", "_law_outcome", "_law_name"]
def nm1 : List PySem.Str := ["_law_raises", "_law_pairs", "_law_net", "_law_call"]
def names : List PySem.Str := nm0 ++ nm1
abbrev R : PySem.W.OpenRow := PySem.W.OpenLaw.row PySem.Challenge.rw_roadshares_k82_whole_texts
abbrev hk : PySem.W.Hook := DL.hookX 4 fa fn
def ob (s : PySem.W.SharedT) : DL.AlX := DL.obsXG 4 fa fn (HandSHeadRun.getT s)
theorem ob_eq (s : PySem.W.SharedT) : ob s = hk.obs s.abs := DL.obsXG_eq (HandSHeadRun.getT_eq s)
theorem run (w : World) : HandSHeadRun.RunEq R (PySem.W.view R.prog [39]) hk ob 4000 names w := by
  intro os
  kernel_rfl
end Hd
set_option Elab.async false
set_option linter.all false
set_option maxRecDepth 100000
set_option maxHeartbeats 4000000
/-! Plain part 1: what a den ends in, by rules along its text. -/
namespace DL
open PySem
/-- it ends well, and so -/
abbrev NoX : Str → List MO → Prop := fun _ _ => False
def WwB {α : Type} (X : Str → List MO → Prop) (r : R α) (Q : α → Sx → Prop) : Prop := match r with
  | .ok a s => Q a s
  | .exc C M => X C M
  | .bad => False
/-- closed, so that no unifier runs the den -/
structure Ww {α : Type} (X : Str → List MO → Prop) (r : R α) (Q : α → Sx → Prop) : Prop where
  out : WwB X r Q
abbrev FinQ (Q : SV → Sx → Prop) : Fl → Sx → Prop := fun f s => match f with
  | .nx => Q (.val .non) ⟨[], s.M⟩
  | .rt sv => Q sv ⟨[], s.M⟩
  | _ => False
abbrev SeqQ (X : Str → List MO → Prop) (y : DS) (Q : Fl → Sx → Prop) : Fl → Sx → Prop := fun f s => match f with
  | .nx => Ww X (y s) Q
  | f => Q f s
variable {X : Str → List MO → Prop}
theorem Ww.ok {α : Type} {a : α} {s : Sx} {Q : α → Sx → Prop} (h : Q a s) : Ww X (.ok a s) Q := ⟨h⟩
theorem Ww.of {α : Type} {a : α} {s : Sx} {Q : α → Sx → Prop} (h : Ww X (.ok a s) Q) : Q a s := h.1
theorem Ww.ex {α : Type} {C : Str} {M : List MO} {Q : α → Sx → Prop} (h : X C M) : Ww X (.exc C M : R α) Q := ⟨h⟩
theorem Ww.imp {α : Type} {r : R α} {Q Q' : α → Sx → Prop} (h : Ww X r Q) (i : ∀ a s, Q a s → Q' a s) : Ww X r Q' := by
  cases r with
  | ok a s => exact ⟨i a s h.1⟩
  | exc C M => exact ⟨h.1⟩
  | bad => exact h.1.elim
theorem Ww.get {α : Type} {r : R α} {Q : α → Sx → Prop} (h : Ww NoX r Q) : ∃ a s, r = .ok a s ∧ Q a s := by
  cases r with
  | ok a s => exact ⟨a, s, rfl, h.1⟩
  | exc C M => exact h.1.elim
  | bad => exact h.1.elim
theorem Ww.eq {α : Type} {r : R α} {a : α} {s : Sx} {Q : α → Sx → Prop} (e : r = .ok a s) (h : Q a s) : Ww X r Q := by rw [e]; exact ⟨h⟩
theorem Ww.bind {α β : Type} {r : R α} {k : α → Sx → R β} {Q : β → Sx → Prop} (h : Ww X r fun a s => Ww X (k a s) Q) : Ww X (r.bind k) Q := by
  cases r with
  | ok a s => exact ⟨h.1.1⟩
  | exc C M => exact ⟨h.1⟩
  | bad => exact h.1.elim
/-- an equation, from what it ends in -/
theorem Ww.to_eq {α : Type} {r : R α} {a : α} {s : Sx} (h : Ww NoX r fun b s' => b = a ∧ s' = s) : r = .ok a s := by
  obtain ⟨b, s', e, rfl, rfl⟩ := h.get
  exact e
section
variable {α : Type} {a b c : DE} {x y : DS} {t u : DT} {da r : DA} {s : Sx} {ρ : List (Option SV)} {M : List MO} {d : D} {i j k n : Nat} {op : D → D → Option SV} {o1 : D → Option SV} {oN : List D → Option SV} {lo hi : DP} {run : DL.Run} {tg : Tg} {di : DI} {own : List Nat} {T C : Str} {v : SV} {ds : List D}
  {Q : SV → Sx → Prop} {QF : Fl → Sx → Prop} {QB : Bool → Sx → Prop} {QA : List D → Sx → Prop} {QP : Option Int → Sx → Prop}
theorem w_fn (h : Ww X (x (initS n ds M)) (FinQ Q)) : Ww X (runFn n x ds M) Q := by
  unfold runFn
  revert h
  cases x (initS n ds M) with
  | ok f s => cases f <;> exact fun h => ⟨h.1⟩
  | exc C M => exact fun h => ⟨h.1⟩
  | bad => exact fun h => h.1.elim
theorem w_seq (h : Ww X (x s) (SeqQ X y QF)) : Ww X (dSeq x y s) QF := by
  refine Ww.bind (h.imp fun f s1 q => ?_)
  cases f <;> first | exact q | exact ⟨q⟩
theorem w_skip (h : QF .nx s) : Ww X (dSkip s) QF := ⟨h⟩
theorem w_expr (h : Ww X (a s) fun _ s1 => QF .nx s1) : Ww X (dExpr a s) QF := Ww.bind (h.imp fun _ _ q => ⟨q⟩)
theorem w_ret (h : Ww X (a s) fun v s1 => QF (.rt v) s1) : Ww X (dRet a s) QF := Ww.bind (h.imp fun _ _ q => ⟨q⟩)
theorem w_ifS (h : Ww X (t s) fun c s1 => (c = true → Ww X (x s1) QF) ∧ (c = false → Ww X (y s1) QF)) : Ww X (dIfS t x y s) QF := by
  refine Ww.bind (h.imp fun c s1 q => ?_)
  cases c with
  | true => exact q.1 rfl
  | false => exact q.2 rfl
theorem w_set (h : Ww X (a s) fun v s1 => QF .nx ⟨s1.ρ.set i (some v), s1.M⟩) : Ww X (dSet i a s) QF := Ww.bind (h.imp fun _ _ q => ⟨q⟩)
theorem w_unp (h : Ww X (a s) fun v s1 => ∃ ρ', tgSet tg (frz v) s1.ρ = some ρ' ∧ QF .nx ⟨ρ', s1.M⟩) : Ww X (dUnp tg a s) QF := by
  refine Ww.bind (h.imp fun v s1 q => ?_)
  obtain ⟨ρ', e, q⟩ := q
  rw [e]; exact ⟨q⟩
theorem w_setObj (h : Ww X (a s) fun v s1 => ∃ ds, v = .own ds ∧ QF .nx ⟨s1.ρ.set i (some (.val (.obj s1.M.length))), s1.M ++ [.lst ds]⟩) : Ww X (dSetObj i a s) QF := by
  refine Ww.bind (h.imp fun v s1 q => ?_)
  obtain ⟨ds, rfl, q⟩ := q
  exact ⟨q⟩
theorem w_par2 (h : Ww X (a s) fun v s1 => Ww X (b s1) fun u s2 => QF .nx ⟨(s2.ρ.set j (some u)).set i (some v), s2.M⟩) : Ww X (dPar2 i j a b s) QF := Ww.bind (h.imp fun _ _ q => Ww.bind (q.imp fun _ _ q => ⟨q⟩))
theorem w_par3 (h : Ww X (a s) fun v s1 => Ww X (b s1) fun u s2 => Ww X (c s2) fun z s3 => QF .nx ⟨((s3.ρ.set k (some z)).set j (some u)).set i (some v), s3.M⟩) : Ww X (dPar3 i j k a b c s) QF := Ww.bind (h.imp fun _ _ q => Ww.bind (q.imp fun _ _ q => Ww.bind (q.imp fun _ _ q => ⟨q⟩)))
theorem w_C (h : Q (.val d) s) : Ww X (dC d s) Q := ⟨h⟩
theorem w_emp (h : Q (.ownD [] []) s) : Ww X (dEmp s) Q := ⟨h⟩
theorem w_var (e : ρ[i]? = some (some (.val d))) (h : Q (.val d) ⟨ρ, M⟩) : Ww X (dVar i ⟨ρ, M⟩) Q := by
  have e2 : dVar i ⟨ρ, M⟩ = .ok (.val d) ⟨ρ, M⟩ := by
    unfold dVar
    dsimp only
    rw [e]
  rw [e2]; exact ⟨h⟩
theorem w_varO (e : ρ[i]? = some (some (.own ds))) (h : Q (.val (.lst ds)) ⟨ρ.set i (some (.val (.lst ds))), M⟩) : Ww X (dVar i ⟨ρ, M⟩) Q := by
  have e2 : dVar i ⟨ρ, M⟩ = .ok (.val (.lst ds)) ⟨ρ.set i (some (.val (.lst ds))), M⟩ := by
    unfold dVar
    dsimp only
    rw [e]; rfl
  rw [e2]; exact ⟨h⟩
theorem w_take (e : ρ[i]? = some (some (.val d))) (h : Q (.val d) ⟨ρ, M⟩) : Ww X (dTake i ⟨ρ, M⟩) Q := by
  have e2 : dTake i ⟨ρ, M⟩ = .ok (.val d) ⟨ρ, M⟩ := by
    unfold dTake
    dsimp only
    rw [e]
  rw [e2]; exact ⟨h⟩
theorem w_takeO (e : ρ[i]? = some (some (.own ds))) (h : Q (.own ds) ⟨ρ.set i none, M⟩) : Ww X (dTake i ⟨ρ, M⟩) Q := by
  have e2 : dTake i ⟨ρ, M⟩ = .ok (.own ds) ⟨ρ.set i none, M⟩ := by
    unfold dTake
    dsimp only
    rw [e]
  rw [e2]; exact ⟨h⟩
theorem w_nil (h : QA [] s) : Ww X (dNil s) QA := ⟨h⟩
theorem w_cons (h : Ww X (a s) fun v s1 => Ww X (r s1) fun vs s2 => QA (frz v :: vs) s2) : Ww X (dCons a r s) QA := Ww.bind (h.imp fun _ _ q => Ww.bind (q.imp fun _ _ q => ⟨q⟩))
theorem w_tup (h : Ww X (da s) fun vs s1 => vs.length ≤ 1000 ∧ Q (.val (.tup vs)) s1) : Ww X (dTup da s) Q := by
  refine Ww.bind (h.imp fun v s1 q => ?_)
  rw [if_pos q.1]; exact ⟨q.2⟩
theorem w_lst (h : Ww X (da s) fun vs s1 => vs.length ≤ 1000 ∧ Q (.own vs) s1) : Ww X (dLst da s) Q := by
  refine Ww.bind (h.imp fun v s1 q => ?_)
  rw [if_pos q.1]; exact ⟨q.2⟩
theorem w_opt {β : Type} {o : Option β} {Q : β → Sx → Prop} (h : ∃ v, o = some v ∧ Q v s) : Ww X (R.opt o s) Q := by
  obtain ⟨v, rfl, q⟩ := h
  exact ⟨q⟩
theorem w_d2 (h : Ww X (a s) fun v s1 => Ww X (b s1) fun u s2 => ∃ z, op (frz v) (frz u) = some z ∧ Q z s2) : Ww X (d2 op a b s) Q := Ww.bind (h.imp fun _ _ q => Ww.bind (q.imp fun _ _ q => w_opt q))
theorem w_d1 (h : Ww X (a s) fun v s1 => ∃ z, o1 (frz v) = some z ∧ Q z s1) : Ww X (d1 o1 a s) Q := Ww.bind (h.imp fun _ _ q => w_opt q)
theorem w_isi {Tn : String} (h : Ww X (a s) fun v s1 => ∃ z, oIsi Tn (frz v) = some z ∧ Q z s1) : Ww X (dIsi Tn a s) Q := w_d1 h
theorem w_dN (h : Ww X (da s) fun vs s1 => ∃ z, oN vs = some z ∧ Q z s1) : Ww X (dN oN da s) Q := Ww.bind (h.imp fun _ _ q => w_opt q)
theorem w_test (h : Ww X (a s) fun v s1 => ∃ c, v = .val (.bl c) ∧ QB c s1) : Ww X (dTest a s) QB := by
  refine Ww.bind (h.imp fun v s1 q => ?_)
  obtain ⟨c, rfl, q⟩ := q
  exact ⟨q⟩
theorem w_chain {o o' : D → D → Option SV} (h : Ww X (a s) fun v s1 => Ww X (b s1) fun u s2 => ∃ c1, o (frz v) (frz u) = some (.val (.bl c1)) ∧ (c1 = true → Ww X (c s2) fun z s3 => ∃ w, o' (frz u) (frz z) = some w ∧ Q w s3) ∧ (c1 = false → Q (.val (.bl false)) s2)) :
    Ww X (dChain o o' a b c s) Q := by
  refine Ww.bind (h.imp fun v s1 q => Ww.bind (q.imp fun u s2 q => ?_))
  obtain ⟨c1, e, q1, q2⟩ := q
  rw [e]
  cases c1 with
  | true => exact Ww.bind ((q1 rfl).imp fun _ _ q => w_opt q)
  | false => exact ⟨q2 rfl⟩
theorem w_tAnd (h : Ww X (t s) fun c s1 => (c = true → Ww X (u s1) QB) ∧ (c = false → QB false s1)) : Ww X (tAndD t u s) QB := by
  refine Ww.bind (h.imp fun c s1 q => ?_)
  cases c with
  | true => exact q.1 rfl
  | false => exact ⟨q.2 rfl⟩
theorem w_tOr (h : Ww X (t s) fun c s1 => (c = true → QB true s1) ∧ (c = false → Ww X (u s1) QB)) : Ww X (tOrD t u s) QB := by
  refine Ww.bind (h.imp fun c s1 q => ?_)
  cases c with
  | true => exact ⟨q.1 rfl⟩
  | false => exact q.2 rfl
theorem w_tNot (h : Ww X (t s) fun c s1 => QB (!c) s1) : Ww X (tNotD t s) QB := Ww.bind (h.imp fun _ _ q => ⟨q⟩)
theorem w_tTrue (h : QB true s) : Ww X (tTrue s) QB := ⟨h⟩
theorem w_and (h : Ww X (a s) fun v s1 => ∃ c, v = .val (.bl c) ∧ (c = true → Ww X (b s1) Q) ∧ (c = false → Q (.val (.bl false)) s1)) : Ww X (dAnd a b s) Q := by
  refine Ww.bind (h.imp fun v s1 q => ?_)
  obtain ⟨c, rfl, q⟩ := q
  cases c with
  | true => exact q.1 rfl
  | false => exact ⟨q.2 rfl⟩
theorem w_or (h : Ww X (a s) fun v s1 => ∃ c, v = .val (.bl c) ∧ (c = true → Q (.val (.bl true)) s1) ∧ (c = false → Ww X (b s1) Q)) : Ww X (dOr a b s) Q := by
  refine Ww.bind (h.imp fun v s1 q => ?_)
  obtain ⟨c, rfl, q⟩ := q
  cases c with
  | true => exact ⟨q.1 rfl⟩
  | false => exact q.2 rfl
theorem w_not (h : Ww X (a s) fun v s1 => ∃ c, v = .val (.bl c) ∧ Q (.val (.bl (!c))) s1) : Ww X (dNot a s) Q := by
  refine Ww.bind (h.imp fun v s1 q => ?_)
  obtain ⟨c, rfl, q⟩ := q
  exact ⟨q⟩
theorem w_ifE (h : Ww X (t s) fun c s1 => (c = true → Ww X (a s1) Q) ∧ (c = false → Ww X (b s1) Q)) : Ww X (dIf t a b s) Q := by
  refine Ww.bind (h.imp fun c s1 q => ?_)
  cases c with
  | true => exact q.1 rfl
  | false => exact q.2 rfl
theorem w_has (e : ∃ x, ρ[i]? = some (some x)) (h : Ww X (a ⟨ρ, M⟩) Q) : Ww X (dHas i a ⟨ρ, M⟩) Q := by
  obtain ⟨x, e⟩ := e
  have : has ⟨ρ, M⟩ i = true := by unfold has; dsimp only; rw [e]
  unfold dHas
  rw [if_pos this]; exact h
theorem w_V2 (h : Ww X (b s) fun u s2 => ∃ d, view s2 i = some d ∧ ∃ z, op d (frz u) = some z ∧ Q z s2) : Ww X (dV2 op i b s) Q := by
  refine Ww.bind (h.imp fun u s2 q => ?_)
  obtain ⟨d, e, q⟩ := q
  rw [e]; exact w_opt q
theorem w_W2 (h : Ww X (a s) fun u s2 => ∃ d, view s2 i = some d ∧ ∃ z, op (frz u) d = some z ∧ Q z s2) : Ww X (dW2 op a i s) Q := by
  refine Ww.bind (h.imp fun u s2 q => ?_)
  obtain ⟨d, e, q⟩ := q
  rw [e]; exact w_opt q
theorem w_V1 (h : ∃ d, view s i = some d ∧ ∃ z, o1 d = some z ∧ Q z s) : Ww X (dV1 o1 i s) Q := by
  obtain ⟨d, e, q⟩ := h
  unfold dV1
  rw [e]; exact w_opt q
theorem w_call (h : Ww X (da s) fun ds s1 => Ww X (run ds s1.M) fun v s2 => Q v ⟨s1.ρ, s2.M⟩) : Ww X (dCall run da s) Q := by
  refine Ww.bind (h.imp fun ds s1 q => ?_)
  unfold callD
  revert q
  cases run ds s1.M with
  | ok v s2 => exact fun q => ⟨q.1⟩
  | exc C M => exact fun q => ⟨q.1⟩
  | bad => exact fun q => q.1.elim
theorem w_no (h : QP none s) : Ww X (pNo s) QP := ⟨h⟩
theorem w_at (h : Ww X (a s) fun v s1 => ∃ i, v = .val (.int i) ∧ QP (some i) s1) : Ww X (pAt a s) QP := by
  refine Ww.bind (h.imp fun v s1 q => ?_)
  obtain ⟨c, rfl, q⟩ := q
  exact ⟨q⟩
theorem w_sl (h : Ww X (a s) fun v s1 => Ww X (lo s1) fun l s2 => Ww X (hi s2) fun u s3 => ∃ z, oSl l u (frz v) = some z ∧ Q z s3) : Ww X (dSl a lo hi s) Q :=
  Ww.bind (h.imp fun _ _ q => Ww.bind (q.imp fun _ _ q => Ww.bind (q.imp fun _ _ q => w_opt q)))
theorem w_slV (h : Ww X (lo s) fun l s2 => Ww X (hi s2) fun u s3 => ∃ d, view s3 i = some d ∧ ∃ z, oSl l u d = some z ∧ Q z s3) : Ww X (dSlV i lo hi s) Q := by
  refine Ww.bind (h.imp fun _ _ q => Ww.bind (q.imp fun _ s3 q => ?_))
  obtain ⟨d, e, q⟩ := q
  rw [e]; exact w_opt q
theorem w_M1 (h : Ww X (a s) fun v s1 => ∃ z, frz v = .str z ∧ Ww X (b s1) fun u s2 => ∃ w, op (.str z) (frz u) = some w ∧ Q w s2) : Ww X (dM1 op a b s) Q := by
  refine Ww.bind (h.imp fun v s1 q => ?_)
  obtain ⟨z, e, q⟩ := q
  rw [e]; exact Ww.bind (q.imp fun _ _ q => w_opt q)
theorem w_Lm {ok : D → List D → Option SV} (e : ∃ ds, view s j = some (.lst ds)) (h : Ww X (da s) fun xs s1 => ∃ ds, view s1 j = some (.lst ds) ∧ ∃ z, ok (.lst ds) xs = some z ∧ Q z s1) : Ww X (dLm ok j da s) Q := by
  obtain ⟨ds, e⟩ := e
  unfold dLm
  rw [e]
  refine Ww.bind (h.imp fun v s1 q => ?_)
  obtain ⟨d, e, q⟩ := q
  rw [e]; exact w_opt q
theorem w_fmt (h : Ww X (a s) fun v s1 => (∃ z, frz v = .str z ∧ Q (.val (.str z)) s1) ∨ ∃ i : Int, frz v = .int i ∧ i.natAbs.log2 < 1920 ∧ okS (toString i) = true ∧ Q (.val (.str (toString i))) s1) : Ww X (dFmt a s) Q := by
  refine Ww.bind (h.imp fun v s1 q => ?_)
  rcases q with ⟨z, e, q⟩ | ⟨i, e, h1, h2, q⟩
  · rw [e]; exact ⟨q⟩
  · rw [e]; dsimp only; rw [if_pos ⟨h1, h2⟩]; exact ⟨q⟩
theorem w_js0 {acc : Str} (h : okS acc = true ∧ Q (.val (.str acc)) s) : Ww X (dJs [] acc s) Q := by
  unfold dJs
  rw [if_pos h.1]; exact ⟨h.2⟩
theorem w_js {acc : Str} {as : List DE} (h : Ww X (a s) fun v s1 => ∃ z, frz v = .str z ∧ (acc ++ z).length ≤ lim ∧ Ww X (dJs as (acc ++ z) s1) Q) : Ww X (dJs (a :: as) acc s) Q := by
  unfold dJs
  refine Ww.bind (h.imp fun v s1 q => ?_)
  obtain ⟨z, e, h1, q⟩ := q
  rw [e]; dsimp only; rw [if_pos h1]; exact q
theorem w_iAny (h : Ww X (a s) fun v s1 => ∃ ds, itemsOf (frz v) = some ds ∧ QA ds s1) : Ww X (diAny a s) QA := Ww.bind (h.imp fun _ _ q => w_opt q)
theorem w_iR1 (h : Ww X (a s) fun v s1 => ∃ j : Int, frz v = .int j ∧ (-1000000 ≤ j ∧ j ≤ 1000000) ∧ QA (rngD 0 j.toNat) s1) : Ww X (diR1 a s) QA := by
  refine Ww.bind (h.imp fun v s1 q => ?_)
  obtain ⟨z, e, h1, q⟩ := q
  rw [e]; dsimp only; rw [if_pos h1]; exact ⟨q⟩
theorem w_iR2 (h : Ww X (a s) fun v s1 => Ww X (b s1) fun u s2 => ∃ i j : Int, frz v = .int i ∧ frz u = .int j ∧ ((-1000000 ≤ i ∧ i ≤ 1000000) ∧ -1000000 ≤ j ∧ j ≤ 1000000) ∧ QA (rngD i (j - i).toNat) s2) : Ww X (diR2 a b s) QA := by
  refine Ww.bind (h.imp fun v s1 q => Ww.bind (q.imp fun u s2 q => ?_))
  obtain ⟨i, j, e1, e2, h1, q⟩ := q
  rw [e1, e2]; dsimp only; rw [if_pos h1]; exact ⟨q⟩
/-! loops -/
theorem w_for (h : Ww X (di s) fun ds s1 => Ww X (forD tg x ds s1) QF) : Ww X (dFor tg di x s) QF := Ww.bind (h.imp fun _ _ q => q)
/-- by an invariant over what is left -/
theorem w_forI (I : List D → Sx → Prop) (hI : I ds s) (step : ∀ d ds s, I (d :: ds) s → ∃ ρ', tgSet tg d s.ρ = some ρ' ∧ Ww X (x ⟨ρ', s.M⟩) fun f s1 => match f with
    | .nx => I ds s1
    | .ct => I ds s1
    | .bk => QF .nx s1
    | .rt v => QF (.rt v) s1) (fin : ∀ s, I [] s → QF .nx s) : Ww X (forD tg x ds s) QF := by
  induction ds generalizing s with
  | nil => exact ⟨fin s hI⟩
  | cons d ds ih =>
    obtain ⟨ρ', e, q⟩ := step d ds s hI
    unfold forD
    rw [e]
    refine Ww.bind (q.imp fun f s1 q => ?_)
    cases f with
    | nx => exact ih q
    | ct => exact ih q
    | bk => exact ⟨q⟩
    | rt v => exact ⟨q⟩
theorem w_comp (h : Ww X (di s) fun ds s1 => Ww NoX (compD own tg t a ds [] s1) fun acc s2 => Q (.own acc) s2) : Ww X (dComp own tg di t a s) Q := by
  refine Ww.bind (h.imp fun ds s1 q => Ww.bind ?_)
  revert q
  cases compD own tg t a ds [] s1 with
  | ok v s2 => exact fun q => ⟨⟨q.1⟩⟩
  | exc C M => exact fun q => q.1.elim
  | bad => exact fun q => q.1.elim
theorem Ww.nox {β : Type} {r : R β} {Q : β → Sx → Prop} (h : Ww NoX r Q) : Ww X r.nox Q := by
  cases r with
  | ok v s2 => exact ⟨h.1⟩
  | exc C M => exact h.1.elim
  | bad => exact h.1.elim
theorem w_compI (I : List D → List D → Sx → Prop) {acc : List D} (hI : I ds acc s) (step : ∀ d ds acc s, I (d :: ds) acc s → ∃ ρ', tgSet tg d (wipeD s.ρ own) = some ρ' ∧ Ww NoX (t ⟨ρ', s.M⟩) fun c s1 => (c = true → Ww NoX (a s1) fun v s2 => I ds (acc ++ [frz v]) s2) ∧ (c = false → I ds acc s1))
    (fin : ∀ acc s, I [] acc s → QA acc ⟨wipeD s.ρ own, s.M⟩) : Ww X (compD own tg t a ds acc s) QA := by
  induction ds generalizing s acc with
  | nil => exact ⟨fin acc s hI⟩
  | cons d ds ih =>
    obtain ⟨ρ', e, q⟩ := step d ds acc s hI
    unfold compD
    rw [e]
    refine Ww.bind (q.nox.imp fun c s1 q => ?_)
    cases c with
    | true => exact Ww.bind ((q.1 rfl).nox.imp fun v s2 q => ih q)
    | false => exact ih (q.2 rfl)
end
def isiInt : D → Option Bool
  | .non => some false
  | .bl _ => some true
  | .int _ => some true
  | .str _ => some false
  | .tup _ => some false
  | .lst _ => some false
  | .scr _ => some false
  | .dct _ _ => some false
  | _ => none
theorem isi_int {d : D} {b : Bool} (h : isiInt d = some b) : oIsi "int" d = some (.val (.bl b)) := by
  cases d <;> first | (cases h; done) | (cases h; rfl) | (cases h; decide +kernel)
def isiBool : D → Option Bool
  | .non => some false
  | .bl _ => some true
  | .int _ => some false
  | .str _ => some false
  | .tup _ => some false
  | .lst _ => some false
  | .scr _ => some false
  | .dct _ _ => some false
  | _ => none
theorem isi_bool {d : D} {b : Bool} (h : isiBool d = some b) : oIsi "bool" d = some (.val (.bl b)) := by
  cases d <;> first | (cases h; done) | (cases h; rfl) | (cases h; decide +kernel)
def isiStr : D → Option Bool
  | .non => some false
  | .bl _ => some false
  | .int _ => some false
  | .str _ => some true
  | .tup _ => some false
  | .lst _ => some false
  | .scr _ => some false
  | .dct _ _ => some false
  | _ => none
theorem isi_str {d : D} {b : Bool} (h : isiStr d = some b) : oIsi "str" d = some (.val (.bl b)) := by
  cases d <;> first | (cases h; done) | (cases h; rfl) | (cases h; decide +kernel)
def isiTup : D → Option Bool
  | .non => some false
  | .bl _ => some false
  | .int _ => some false
  | .str _ => some false
  | .tup _ => some true
  | .lst _ => some false
  | .scr _ => some false
  | .dct _ _ => some false
  | _ => none
theorem isi_tuple {d : D} {b : Bool} (h : isiTup d = some b) : oIsi "tuple" d = some (.val (.bl b)) := by
  cases d <;> first | (cases h; done) | (cases h; rfl) | (cases h; decide +kernel)
def isiLst : D → Option Bool
  | .non => some false
  | .bl _ => some false
  | .int _ => some false
  | .str _ => some false
  | .tup _ => some false
  | .lst _ => some true
  | .scr _ => some true
  | .dct _ _ => some false
  | _ => none
theorem isi_list {d : D} {b : Bool} (h : isiLst d = some b) : oIsi "list" d = some (.val (.bl b)) := by
  cases d <;> first | (cases h; done) | (cases h; rfl) | (cases h; decide +kernel)
def isiDct : D → Option Bool
  | .non => some false
  | .bl _ => some false
  | .int _ => some false
  | .str _ => some false
  | .tup _ => some false
  | .lst _ => some false
  | .scr _ => some false
  | .dct _ _ => some true
  | _ => none
theorem isi_dict {d : D} {b : Bool} (h : isiDct d = some b) : oIsi "dict" d = some (.val (.bl b)) := by
  cases d <;> first | (cases h; done) | (cases h; rfl) | (cases h; decide +kernel)
theorem xi_int {d : D} {b : Bool} {Q : SV → Prop} (h : isiInt d = some b) (q : Q (.val (.bl b))) : ∃ z, oIsi "int" d = some z ∧ Q z := ⟨_, isi_int h, q⟩
theorem xi_bool {d : D} {b : Bool} {Q : SV → Prop} (h : isiBool d = some b) (q : Q (.val (.bl b))) : ∃ z, oIsi "bool" d = some z ∧ Q z := ⟨_, isi_bool h, q⟩
theorem xi_str {d : D} {b : Bool} {Q : SV → Prop} (h : isiStr d = some b) (q : Q (.val (.bl b))) : ∃ z, oIsi "str" d = some z ∧ Q z := ⟨_, isi_str h, q⟩
theorem xi_tuple {d : D} {b : Bool} {Q : SV → Prop} (h : isiTup d = some b) (q : Q (.val (.bl b))) : ∃ z, oIsi "tuple" d = some z ∧ Q z := ⟨_, isi_tuple h, q⟩
theorem xi_list {d : D} {b : Bool} {Q : SV → Prop} (h : isiLst d = some b) (q : Q (.val (.bl b))) : ∃ z, oIsi "list" d = some z ∧ Q z := ⟨_, isi_list h, q⟩
theorem xi_dict {d : D} {b : Bool} {Q : SV → Prop} (h : isiDct d = some b) (q : Q (.val (.bl b))) : ∃ z, oIsi "dict" d = some z ∧ Q z := ⟨_, isi_dict h, q⟩
theorem tf : ¬ (true = false) := Bool.noConfusion
theorem ft : ¬ (false = true) := Bool.noConfusion
theorem x_eq {β : Type} {o : Option β} {v : β} {Q : β → Prop} (h : o = some v) (q : Q v) : ∃ z, o = some z ∧ Q z := ⟨v, h, q⟩
theorem x_bl {v : SV} {c : Bool} {Q : Bool → Prop} (h : v = .val (.bl c)) (q : Q c) : ∃ c, v = .val (.bl c) ∧ Q c := ⟨c, h, q⟩
theorem x_int {v : SV} {c : Int} {Q : Int → Prop} (h : v = .val (.int c)) (q : Q c) : ∃ c, v = .val (.int c) ∧ Q c := ⟨c, h, q⟩
theorem x_str {v : D} {c : Str} {Q : Str → Prop} (h : v = .str c) (q : Q c) : ∃ c, v = .str c ∧ Q c := ⟨c, h, q⟩
theorem x_intD {v : D} {c : Int} {Q : Int → Prop} (h : v = .int c) (q : Q c) : ∃ c, v = .int c ∧ Q c := ⟨c, h, q⟩
theorem x_intD2 {v u : D} {c e : Int} {Q : Int → Int → Prop} (h : v = .int c) (h2 : u = .int e) (q : Q c e) : ∃ c e, v = .int c ∧ u = .int e ∧ Q c e := ⟨c, e, h, h2, q⟩
theorem x_own {v : SV} {c : List D} {Q : List D → Prop} (h : v = .own c) (q : Q c) : ∃ c, v = .own c ∧ Q c := ⟨c, h, q⟩
theorem x_le {a b : Nat} {Q : Prop} (h : a ≤ b) (q : Q) : a ≤ b ∧ Q := ⟨h, q⟩
theorem x_t {c : Bool} {A B : Prop} (e : c = true) (h : A) : (c = true → A) ∧ (c = false → B) := ⟨fun _ => h, fun h => by rw [e] at h; cases h⟩
theorem x_f {c : Bool} {A B : Prop} (e : c = false) (h : B) : (c = true → A) ∧ (c = false → B) := ⟨fun h => by (rw [e] at h; cases h), fun _ => h⟩
theorem x_split {c : Bool} {A B : Prop} (h : c = true → A) (h2 : c = false → B) : (c = true → A) ∧ (c = false → B) := ⟨h, h2⟩
theorem x_has {ρ : List (Option SV)} {i : Nat} {x : SV} (h : ρ[i]? = some (some x)) : ∃ x, ρ[i]? = some (some x) := ⟨x, h⟩
theorem x_chain {o : Option SV} {c : Bool} {Q : Bool → Prop} (h : o = some (.val (.bl c))) (q : Q c) : ∃ c, o = some (.val (.bl c)) ∧ Q c := ⟨c, h, q⟩
theorem frz_v (d : D) : frz (.val d) = d := rfl
theorem frz_o (ds : List D) : frz (.own ds) = .lst ds := rfl
theorem frz_d (ks : List (List Int)) (ds : List D) : frz (.ownD ks ds) = .dct ks ds := rfl
theorem x_ow {o : Option (Option SV)} {c : List D} {Q : List D → Prop} (h : o = some (some (.own c))) (q : Q c) : ∃ c, o = some (some (.own c)) ∧ Q c := ⟨c, h, q⟩
theorem x_owD {o : Option (Option SV)} {c : List (List Int)} {e : List D} {Q : List (List Int) → List D → Prop} (h : o = some (some (.ownD c e))) (q : Q c e) : ∃ c e, o = some (some (.ownD c e)) ∧ Q c e := ⟨c, e, h, q⟩
theorem x_ob {o : Option (Option SV)} {c : Nat} {Q : Nat → Prop} (h : o = some (some (.val (.obj c)))) (q : Q c) : ∃ c, o = some (some (.val (.obj c))) ∧ Q c := ⟨c, h, q⟩
theorem x_mo {o : Option MO} {c : List D} {Q : List D → Prop} (h : o = some (.lst c)) (q : Q c) : ∃ c, o = some (.lst c) ∧ Q c := ⟨c, h, q⟩
theorem x_tp {v : D} {c : List D} {Q : List D → Prop} (h : v = .tup c) (q : Q c) : ∃ c, v = .tup c ∧ Q c := ⟨c, h, q⟩
theorem x_tr {c : Bool} {Q : Prop} (h : c = true) (q : Q) : c = true ∧ Q := ⟨h, q⟩
end DL
namespace T82
open PySem PySem.Spec PyProof.Rows L2 DL
def db_is_between : DS :=
  (dRet (dAnd (dIsi "int" (dVar 0)) (dAnd (dNot (dIsi "bool" (dVar 0))) (dChain oLe oLe (dVar 1) (dVar 0) (dVar 2)))))
def r_is_between : DL.Run := runFn 3 db_is_between
theorem in_is_between {a0 a1 a2 : D} {X : Str → List MO → Prop} {M : List MO} {Q : SV → Sx → Prop} (h : Ww X (db_is_between ⟨[some (.val a0), some (.val a1), some (.val a2)], M⟩) (FinQ Q)) : Ww X (r_is_between [a0, a1, a2] M) Q := w_fn h
def db_is_joined : DS :=
  (dSeq (dSet 2 (dLst (dCons (dC (.int 0)) dNil))) (dSeq (dFor (.nm 3) (diR1 (dVar 0)) (dFor (.tp [(.nm 4), (.nm 5), (.nm 6)]) (diAny (dVar 1)) (dIfS (dTest (d2 oNe (dW2 (oIn false) (dVar 4) 2) (dW2 (oIn false) (dVar 5) 2))) (dExpr (dMut fExtend 2 (dCons (dComp [7] (.nm 7) (diAny (dTup (dCons (dVar 4) (dCons (dVar 5) dNil)))) (dTest (dW2 (oIn true) (dVar 7) 2)) (dVar 7)) dNil))) dSkip))) (dRet (d2 oEq (dV1 oLen 2) (dVar 0)))))
def r_is_joined : DL.Run := runFn 8 db_is_joined
theorem in_is_joined {a0 a1 : D} {X : Str → List MO → Prop} {M : List MO} {Q : SV → Sx → Prop} (h : Ww X (db_is_joined ⟨[some (.val a0), some (.val a1), none, none, none, none, none, none], M⟩) (FinQ Q)) : Ww X (r_is_joined [a0, a1] M) Q := w_fn h
def db_net_text : DS :=
  (dRet (dM1 oJoin (dC (.str " ")) (d2 oAdd (dLst (dCons (dJs [(dFmt (dHas 0 (dV2 oIx 0 (dC (.int 0))))), (dC (.str ":"))] Str.empty) dNil)) (dComp [1, 2, 3] (.tp [(.nm 1), (.nm 2), (.nm 3)]) (diAny (dHas 0 (dV2 oIx 0 (dC (.int 1))))) tTrue (dJs [(dFmt (dVar 1)), (dC (.str "-")), (dFmt (dVar 2)), (dC (.str "=")), (dFmt (dVar 3))] Str.empty)))))
def r_net_text : DL.Run := runFn 4 db_net_text
theorem in_net_text {a0 : D} {X : Str → List MO → Prop} {M : List MO} {Q : SV → Sx → Prop} (h : Ww X (db_net_text ⟨[some (.val a0), none, none, none], M⟩) (FinQ Q)) : Ww X (r_net_text [a0] M) Q := w_fn h
def db_number_of : DS :=
  (dSeq (dIfS (tOrD (tNotD (dTest (dChain oLe oLe (dC (.int 1)) (dV1 oLen 0) (dC (.int 3))))) (tNotD (dTest (dN (on1 oAll) (dCons (dComp [1] (.nm 1) (diAny (dVar 0)) tTrue (d2 (oIn false) (dVar 1) (dC (.str "0123456789")))) dNil))))) (dRet (dC .non)) dSkip) (dRet (dN (on1 oInt) (dCons (dVar 0) dNil))))
def r_number_of : DL.Run := runFn 2 db_number_of
theorem in_number_of {a0 : D} {X : Str → List MO → Prop} {M : List MO} {Q : SV → Sx → Prop} (h : Ww X (db_number_of ⟨[some (.val a0), none], M⟩) (FinQ Q)) : Ww X (r_number_of [a0] M) Q := w_fn h
def db__law_town : DS :=
  (dRet (d2 oAdd (dLst (dCons (dC (.int 0)) dNil)) (dV1 oList 0)))
def r__law_town : DL.Run := runFn 1 db__law_town
theorem in__law_town {a0 : D} {X : Str → List MO → Prop} {M : List MO} {Q : SV → Sx → Prop} (h : Ww X (db__law_town ⟨[some (.val a0)], M⟩) (FinQ Q)) : Ww X (r__law_town [a0] M) Q := w_fn h
def db__law_draw : DS :=
  (dSeq (dSetIx 1 (d2 oAdd (dHas 1 (dV2 oIx 1 (dC (.int 0)))) (dC (.int 1))) (dC (.int 0))) (dSeq (dIfS (dTest (dHas 0 (dV2 oEq 0 (dLst dNil)))) (dRet (d2 oMod (d2 oFdiv (d2 oMul (d2 oMul (dHas 1 (dV2 oIx 1 (dC (.int 0)))) (dHas 1 (dV2 oIx 1 (dC (.int 0))))) (dC (.int 7))) (dC (.int 3))) (dVar 2))) dSkip) (dSeq (dSet 3 (d2 oMod (dHas 1 (dV2 oIx 1 (dC (.int 0)))) (dV1 oLen 0))) (dSeq (dSet 4 (dHas 1 (dV2 oIx 1 (d2 oAdd (dC (.int 1)) (dVar 3))))) (dSeq (dIfS (tAndD (dTest (d2 oGe (dHas 0 (dV2 oIx 0 (dVar 3))) (d2 oPow (dC (.int 10)) (dC (.int 18))))) (dTest (d2 oGt (dVar 4) (dC (.int 0))))) (dSeq (dSetIx 1 (d2 oFdiv (dVar 4) (dVar 2)) (d2 oAdd (dC (.int 1)) (dVar 3))) (dRet (d2 oMod (dVar 4) (dVar 2)))) dSkip) (dSeq (dSet 5 (d2 oMod (d2 oAdd (dHas 0 (dV2 oIx 0 (dVar 3))) (d2 oMul (dC (.int 104729)) (dHas 1 (dV2 oIx 1 (dC (.int 0)))))) (dC (.int 4294967291)))) (dSeq (dSet 5 (d2 oMod (d2 oPow (dVar 5) (dC (.int 5))) (dC (.int 4294967279)))) (dRet (d2 oMod (d2 oFdiv (d2 oMod (d2 oAdd (d2 oMul (d2 oFdiv (dVar 5) (dC (.int 64))) (dC (.int 69621))) (dVar 5)) (dC (.int 4294967231))) (dC (.int 8))) (dVar 2))))))))))
def r__law_draw : DL.Run := runFn 6 db__law_draw
theorem in__law_draw {a0 a1 a2 : D} {X : Str → List MO → Prop} {M : List MO} {Q : SV → Sx → Prop} (h : Ww X (db__law_draw ⟨[some (.val a0), some (.val a1), some (.val a2), none, none, none], M⟩) (FinQ Q)) : Ww X (r__law_draw [a0, a1, a2] M) Q := w_fn h
def db__law_name : DS :=
  (dSeq (dIfS (tNotD (dTest (dIsX none (dVar 0)))) (dRet (d1 oNeg (dC (.int 1)))) dSkip) (dSeq (dSet 1 (dLst (dCons (dIsX (some "InvalidNet") (dVar 0)) (dCons (dIsX (some "InvalidPair") (dVar 0)) dNil)))) (dSeq (dSet 1 (d2 oAdd (dVar 1) (dLst (dCons (dIsX (some "InvalidRouting") (dVar 0)) (dCons (dIsX (some "InvalidDemands") (dVar 0)) dNil))))) (dSeq (dSet 1 (d2 oAdd (dVar 1) (dLst (dCons (dIsX (some "InvalidNumber") (dVar 0)) (dCons (dIsX (some "InvalidShare") (dVar 0)) dNil))))) (dSeq (dSet 1 (d2 oAdd (dVar 1) (dLst (dCons (dIsX (some "InvalidTree") (dVar 0)) (dCons (dIsX (some "InvalidLine") (dVar 0)) dNil))))) (dSeq (dSet 1 (d2 oAdd (dVar 1) (dLst (dCons (dIsX (some "InvalidNames") (dVar 0)) (dCons (dIsX (some "InvalidMost") (dVar 0)) dNil))))) (dSeq (dSet 1 (d2 oAdd (dVar 1) (dLst (dCons (dIsX (some "InvalidText") (dVar 0)) (dCons (dIsX (some "NotJoined") (dVar 0)) dNil))))) (dSeq (dSet 1 (d2 oAdd (dVar 1) (dLst (dCons (dIsX (some "TooMany") (dVar 0)) (dCons (dIsX (some "NothingToUndo") (dVar 0)) dNil))))) (dRet (dIf (dTest (d2 oEq (dLm oCount 1 (dCons (dC (.bl true)) dNil)) (dC (.int 1)))) (dLm oIndex 1 (dCons (dC (.bl true)) dNil)) (d1 oNeg (dC (.int 1)))))))))))))
def r__law_name : DL.Run := runFn 2 db__law_name
theorem in__law_name {a0 : D} {X : Str → List MO → Prop} {M : List MO} {Q : SV → Sx → Prop} (h : Ww X (db__law_name ⟨[some (.val a0), none], M⟩) (FinQ Q)) : Ww X (r__law_name [a0] M) Q := w_fn h
def db__law_raises : DS :=
  (dSeq (dSet 1 (dLst (dCons (dC (.str "net")) (dCons (dC (.str "pair")) (dCons (dC (.str "routing")) (dCons (dC (.str "demands")) (dCons (dC (.str "number")) (dCons (dC (.str "share")) (dCons (dC (.str "tree")) dNil))))))))) (dSeq (dSet 1 (d2 oAdd (dVar 1) (dLst (dCons (dC (.str "line")) (dCons (dC (.str "names")) (dCons (dC (.str "most")) (dCons (dC (.str "text")) (dCons (dC (.str "not_joined")) (dCons (dC (.str "many")) (dCons (dC (.str "undo")) dNil)))))))))) (dRet (dTup (dCons (dC (.str "raised")) (dCons (dLm oIndex 1 (dCons (dVar 0) dNil)) dNil))))))
def r__law_raises : DL.Run := runFn 2 db__law_raises
theorem in__law_raises {a0 : D} {X : Str → List MO → Prop} {M : List MO} {Q : SV → Sx → Prop} (h : Ww X (db__law_raises ⟨[some (.val a0), none], M⟩) (FinQ Q)) : Ww X (r__law_raises [a0] M) Q := w_fn h
def db__law_pairs : DS :=
  (dSeq (dSet 1 (dLst dNil)) (dSeq (dFor (.nm 2) (diR1 (dVar 0)) (dSet 1 (d2 oAdd (dVar 1) (dComp [3] (.nm 3) (diR2 (d2 oAdd (dVar 2) (dC (.int 1))) (dVar 0)) tTrue (dTup (dCons (dVar 2) (dCons (dVar 3) dNil))))))) (dRet (dTake 1))))
def r__law_pairs : DL.Run := runFn 4 db__law_pairs
theorem in__law_pairs {a0 : D} {X : Str → List MO → Prop} {M : List MO} {Q : SV → Sx → Prop} (h : Ww X (db__law_pairs ⟨[some (.val a0), none, none, none], M⟩) (FinQ Q)) : Ww X (r__law_pairs [a0] M) Q := w_fn h
def db_is_line : DS :=
  (dSeq (dIfS (tOrD (tNotD (dTest (dIsi "tuple" (dVar 1)))) (tOrD (dTest (d2 oNe (dV1 oLen 1) (dC (.int 3)))) (tNotD (dTest (dCall r_is_between (dCons (dHas 1 (dV2 oIx 1 (dC (.int 0)))) (dCons (dC (.int 0)) (dCons (d2 oSub (dVar 0) (dC (.int 1))) dNil)))))))) (dRet (dC (.bl false))) dSkip) (dRet (dAnd (dCall r_is_between (dCons (dHas 1 (dV2 oIx 1 (dC (.int 1)))) (dCons (d2 oAdd (dHas 1 (dV2 oIx 1 (dC (.int 0)))) (dC (.int 1))) (dCons (d2 oSub (dVar 0) (dC (.int 1))) dNil)))) (dCall r_is_between (dCons (dHas 1 (dV2 oIx 1 (dC (.int 2)))) (dCons (dC (.int 1)) (dCons (dC (.int 100)) dNil)))))))
def r_is_line : DL.Run := runFn 2 db_is_line
theorem in_is_line {a0 a1 : D} {X : Str → List MO → Prop} {M : List MO} {Q : SV → Sx → Prop} (h : Ww X (db_is_line ⟨[some (.val a0), some (.val a1)], M⟩) (FinQ Q)) : Ww X (r_is_line [a0, a1] M) Q := w_fn h
def db_line_of : DS :=
  (dSeq (dUnp (.tp [(.nm 1), (.nm 2), (.nm 3)]) (dM1 oPartition (dVar 0) (dC (.str "=")))) (dSeq (dUnp (.tp [(.nm 4), (.nm 5), (.nm 6)]) (dM1 oPartition (dVar 1) (dC (.str "-")))) (dRet (dTup (dCons (dCall r_number_of (dCons (dVar 4) dNil)) (dCons (dCall r_number_of (dCons (dVar 6) dNil)) (dCons (dCall r_number_of (dCons (dVar 3) dNil)) dNil)))))))
def r_line_of : DL.Run := runFn 7 db_line_of
theorem in_line_of {a0 : D} {X : Str → List MO → Prop} {M : List MO} {Q : SV → Sx → Prop} (h : Ww X (db_line_of ⟨[some (.val a0), none, none, none, none, none, none], M⟩) (FinQ Q)) : Ww X (r_line_of [a0] M) Q := w_fn h
def db__law_pick : DS :=
  (dRet (dHas 2 (dV2 oIx 2 (dCall r__law_draw (dCons (dVar 0) (dCons (dVar 1) (dCons (dV1 oLen 2) dNil)))))))
def r__law_pick : DL.Run := runFn 3 db__law_pick
theorem in__law_pick {a0 a1 a2 : D} {X : Str → List MO → Prop} {M : List MO} {Q : SV → Sx → Prop} (h : Ww X (db__law_pick ⟨[some (.val a0), some (.val a1), some (.val a2)], M⟩) (FinQ Q)) : Ww X (r__law_pick [a0, a1, a2] M) Q := w_fn h
def db_is_net : DS :=
  (dSeq (dIfS (tOrD (tNotD (dTest (dIsi "tuple" (dVar 0)))) (tOrD (dTest (d2 oNe (dV1 oLen 0) (dC (.int 2)))) (tNotD (dTest (dCall r_is_between (dCons (dHas 0 (dV2 oIx 0 (dC (.int 0)))) (dCons (dC (.int 2)) (dCons (dC (.int 5)) dNil)))))))) (dRet (dC (.bl false))) dSkip) (dSeq (dIfS (tOrD (tNotD (dTest (dIsi "tuple" (dHas 0 (dV2 oIx 0 (dC (.int 1))))))) (tOrD (dTest (d2 oGt (dN (on1 oLen) (dCons (dHas 0 (dV2 oIx 0 (dC (.int 1)))) dNil)) (dC (.int 8)))) (tNotD (dTest (dN (on1 oAll) (dCons (dComp [2] (.nm 2) (diAny (dHas 0 (dV2 oIx 0 (dC (.int 1))))) tTrue (dCall r_is_line (dCons (dHas 0 (dV2 oIx 0 (dC (.int 0)))) (dCons (dVar 2) dNil)))) dNil)))))) (dRet (dC (.bl false))) dSkip) (dSeq (dIfS (tNotD (dTest (dN (on1 oAll) (dCons (dComp [1] (.nm 1) (diR1 (d2 oSub (dN (on1 oLen) (dCons (dHas 0 (dV2 oIx 0 (dC (.int 1)))) dNil)) (dC (.int 1)))) tTrue (d2 oLt (dSl (d2 oIx (dHas 0 (dV2 oIx 0 (dC (.int 1)))) (dVar 1)) pNo (pAt (dC (.int 2)))) (dSl (d2 oIx (dHas 0 (dV2 oIx 0 (dC (.int 1)))) (d2 oAdd (dVar 1) (dC (.int 1)))) pNo (pAt (dC (.int 2)))))) dNil)))) (dRet (dC (.bl false))) dSkip) (dRet (dCall r_is_joined (dCons (dHas 0 (dV2 oIx 0 (dC (.int 0)))) (dCons (dHas 0 (dV2 oIx 0 (dC (.int 1)))) dNil)))))))
def r_is_net : DL.Run := runFn 3 db_is_net
theorem in_is_net {a0 : D} {X : Str → List MO → Prop} {M : List MO} {Q : SV → Sx → Prop} (h : Ww X (db_is_net ⟨[some (.val a0), none, none], M⟩) (FinQ Q)) : Ww X (r_is_net [a0] M) Q := w_fn h
def db__law_net : DS :=
  (dSeq (dPar2 3 4 (d2 oAdd (dC (.int 2)) (dCall r__law_draw (dCons (dVar 0) (dCons (dVar 1) (dCons (d2 oSub (dVar 2) (dC (.int 1))) dNil))))) dEmp) (dSeq (dSet 5 (dCall r__law_pick (dCons (dVar 0) (dCons (dVar 1) (dCons (dLst (dCons (dLst (dCons (dC (.int 1)) dNil)) (dCons (dLst (dCons (dC (.int 1)) (dCons (dC (.int 2)) (dCons (dC (.int 3)) dNil)))) (dCons (dLst (dCons (dC (.int 1)) (dCons (dC (.int 5)) (dCons (dC (.int 100)) dNil)))) dNil)))) dNil))))) (dSeq (dFor (.nm 6) (diR2 (dC (.int 1)) (dVar 3)) (dSetIx 4 (dCall r__law_pick (dCons (dVar 0) (dCons (dVar 1) (dCons (dVar 5) dNil)))) (dTup (dCons (dCall r__law_draw (dCons (dVar 0) (dCons (dVar 1) (dCons (dVar 6) dNil)))) (dCons (dVar 6) dNil))))) (dSeq (dSet 7 (dCall r__law_draw (dCons (dVar 0) (dCons (dVar 1) (dCons (dC (.int 4)) dNil))))) (dSeq (dFor (.nm 8) (diAny (dCall r__law_pairs (dCons (dVar 3) dNil))) (dIfS (tAndD (dTest (dW2 (oIn true) (dVar 8) 4)) (tAndD (dTest (d2 oLt (dV1 oLen 4) (dC (.int 8)))) (dTest (d2 oLt (dCall r__law_draw (dCons (dVar 0) (dCons (dVar 1) (dCons (dC (.int 3)) dNil)))) (dVar 7))))) (dSetIx 4 (dCall r__law_pick (dCons (dVar 0) (dCons (dVar 1) (dCons (dVar 5) dNil)))) (dVar 8)) dSkip)) (dRet (dTup (dCons (dVar 3) (dCons (dN (on1 oTupOf) (dCons (dComp [9, 6] (.tp [(.nm 9), (.nm 6)]) (diAny (dV1 oSorted 4)) tTrue (dTup (dCons (dVar 9) (dCons (dVar 6) (dCons (dHas 4 (dV2 oIx 4 (dTup (dCons (dVar 9) (dCons (dVar 6) dNil))))) dNil))))) dNil)) dNil)))))))))
def r__law_net : DL.Run := runFn 10 db__law_net
theorem in__law_net {a0 a1 a2 : D} {X : Str → List MO → Prop} {M : List MO} {Q : SV → Sx → Prop} (h : Ww X (db__law_net ⟨[some (.val a0), some (.val a1), some (.val a2), none, none, none, none, none, none, none], M⟩) (FinQ Q)) : Ww X (r__law_net [a0, a1, a2] M) Q := w_fn h
def db_check_net : DS :=
  (dIfS (tNotD (dTest (dCall r_is_net (dCons (dVar 0) dNil)))) (dRaise "InvalidNet") dSkip)
def r_check_net : DL.Run := runFn 1 db_check_net
theorem in_check_net {a0 : D} {X : Str → List MO → Prop} {M : List MO} {Q : SV → Sx → Prop} (h : Ww X (db_check_net ⟨[some (.val a0)], M⟩) (FinQ Q)) : Ww X (r_check_net [a0] M) Q := w_fn h
def db_parse_net : DS :=
  (dSeq (dIfS (tNotD (dTest (dIsi "str" (dVar 0)))) (dRaise "InvalidText") dSkip) (dSeq (dSet 1 (dM1 oSplit (dVar 0) (dC (.str " ")))) (dSeq (dSet 2 (dTup (dCons (dCall r_number_of (dCons (dSl (dHas 1 (dV2 oIx 1 (dC (.int 0)))) pNo (pAt (d1 oNeg (dC (.int 1))))) dNil)) (dCons (dN (on1 oTupOf) (dCons (dComp [3] (.nm 3) (diAny (dHas 1 (dSlV 1 (pAt (dC (.int 1))) pNo))) tTrue (dCall r_line_of (dCons (dVar 3) dNil))) dNil)) dNil)))) (dSeq (dIfS (tOrD (tNotD (dTest (dCall r_is_net (dCons (dVar 2) dNil)))) (dTest (d2 oNe (dCall r_net_text (dCons (dVar 2) dNil)) (dVar 0)))) (dRaise "InvalidText") dSkip) (dRet (dTake 2))))))
def r_parse_net : DL.Run := runFn 4 db_parse_net
theorem in_parse_net {a0 : D} {X : Str → List MO → Prop} {M : List MO} {Q : SV → Sx → Prop} (h : Ww X (db_parse_net ⟨[some (.val a0), none, none, none], M⟩) (FinQ Q)) : Ww X (r_parse_net [a0] M) Q := w_fn h
def db_format_net : DS :=
  (dSeq (dExpr (dCall r_check_net (dCons (dVar 0) dNil))) (dRet (dCall r_net_text (dCons (dVar 0) dNil))))
def r_format_net : DL.Run := runFn 1 db_format_net
theorem in_format_net {a0 : D} {X : Str → List MO → Prop} {M : List MO} {Q : SV → Sx → Prop} (h : Ww X (db_format_net ⟨[some (.val a0)], M⟩) (FinQ Q)) : Ww X (r_format_net [a0] M) Q := w_fn h
def db__law_call : DS :=
  (dRet (dIf (dTest (dHas 0 (dV2 oEq 0 (dC (.int 0))))) (dCall r_parse_net (dCons (dVar 1) dNil)) (dCall r_format_net (dCons (dVar 1) dNil))))
def r__law_call : DL.Run := runFn 2 db__law_call
theorem in__law_call {a0 a1 : D} {X : Str → List MO → Prop} {M : List MO} {Q : SV → Sx → Prop} (h : Ww X (db__law_call ⟨[some (.val a0), some (.val a1)], M⟩) (FinQ Q)) : Ww X (r__law_call [a0, a1] M) Q := w_fn h
def db__law_outcome : DS :=
  (dSeq (dSet 2 (dC .non)) (dSeq (dSet 3 (dC .non)) (dSeq (dCatch 5 2 (dSet 3 (dCall r__law_call (dCons (dVar 0) (dCons (dVar 1) dNil))))) (dSeq (dIfS (dTest (d2 oIs (dVar 2) (dC .non))) (dRet (dTup (dCons (dC (.str "returned")) (dCons (dVar 3) dNil)))) dSkip) (dRet (dTup (dCons (dC (.str "raised")) (dCons (dCall r__law_name (dCons (dVar 2) dNil)) dNil))))))))
def r__law_outcome : DL.Run := runFn 5 db__law_outcome
theorem in__law_outcome {a0 a1 : D} {X : Str → List MO → Prop} {M : List MO} {Q : SV → Sx → Prop} (h : Ww X (db__law_outcome ⟨[some (.val a0), some (.val a1), none, none, none], M⟩) (FinQ Q)) : Ww X (r__law_outcome [a0, a1] M) Q := w_fn h
def db_law : DS :=
  (dSeq (dSetObj 1 (dCall r__law_town (dCons (dVar 0) dNil))) (dSeq (dSet 2 (dCall r__law_net (dCons (dVar 0) (dCons (dVar 1) (dCons (dC (.int 5)) dNil))))) (dSeq (dSet 3 (d2 oAdd (dN (on1 oStr) (dCons (dHas 2 (dV2 oIx 2 (dC (.int 0)))) dNil)) (dC (.str ":")))) (dSeq (dFor (.tp [(.nm 4), (.nm 5), (.nm 6)]) (diAny (dHas 2 (dV2 oIx 2 (dC (.int 1))))) (dSet 3 (d2 oAdd (d2 oAdd (d2 oAdd (d2 oAdd (d2 oAdd (d2 oAdd (dVar 3) (dC (.str " "))) (dN (on1 oStr) (dCons (dVar 4) dNil))) (dC (.str "-"))) (dN (on1 oStr) (dCons (dVar 5) dNil))) (dC (.str "="))) (dN (on1 oStr) (dCons (dVar 6) dNil))))) (dSeq (dIfS (tOrD (dTest (d2 oNe (dCall r_format_net (dCons (dVar 2) dNil)) (dVar 3))) (dTest (d2 oNe (dCall r__law_outcome (dCons (dC (.int 0)) (dCons (dVar 3) dNil))) (dTup (dCons (dC (.str "returned")) (dCons (dVar 2) dNil)))))) (dRet (dC (.bl false))) dSkip) (dSeq (dFor (.nm 7) (diR1 (dC (.int 14))) (dSeq (dSet 8 (dCall r__law_draw (dCons (dVar 0) (dCons (dVar 1) (dCons (d2 oAdd (dV1 oLen 3) (dC (.int 1))) dNil))))) (dSeq (dSet 9 (dCall r__law_pick (dCons (dVar 0) (dCons (dVar 1) (dCons (d2 oAdd (dN (on1 oList) (dCons (dC (.str "01234 -=:.")) dNil)) (dLst (dCons (dC (.str "")) (dCons (dC (.str "  ")) (dCons (dC (.str "\n")) (dCons (dC (.str "00")) (dCons (dC (.str " 0-1=1")) (dCons (dC (.str "00 ")) dNil)))))))) dNil))))) (dSeq (dSet 10 (d2 oAdd (d2 oAdd (dHas 3 (dSlV 3 pNo (pAt (dVar 8)))) (dVar 9)) (dHas 3 (dSlV 3 (pAt (d2 oAdd (dVar 8) (dCall r__law_draw (dCons (dVar 0) (dCons (dVar 1) (dCons (dC (.int 2)) dNil)))))) pNo)))) (dSeq (dSet 11 (dCall r__law_outcome (dCons (dC (.int 0)) (dCons (dVar 10) dNil)))) (dIfS (dTest (d2 oEq (dHas 11 (dV2 oIx 11 (dC (.int 0)))) (dC (.str "returned")))) (dIfS (tOrD (dTest (d2 oIsNot (dCall r_is_net (dCons (dHas 11 (dV2 oIx 11 (dC (.int 1)))) dNil)) (dC (.bl true)))) (dTest (d2 oNe (dCall r_format_net (dCons (dHas 11 (dV2 oIx 11 (dC (.int 1)))) dNil)) (dVar 10)))) (dRet (dC (.bl false))) dSkip) (dIfS (tOrD (dTest (dHas 11 (dV2 oNe 11 (dCall r__law_raises (dCons (dC (.str "text")) dNil))))) (dTest (dHas 10 (dV2 oEq 10 (dVar 3))))) (dRet (dC (.bl false))) dSkip))))))) (dSeq (dSet 12 (dLst (dCons (dC .non) (dCons (dC (.int 5)) (dCons (dC (.bl true)) (dCons (dC (.str "")) (dCons (dC (.str " ")) (dCons (dC (.str "2")) (dCons (dC (.str "2:")) (dCons (dC (.str "2: ")) (dCons (dC (.str "2:0-1=1")) (dCons (dC (.str "2: 0-1=1 ")) (dCons (dC (.str " 2: 0-1=1")) (dCons (dC (.str "1: 0-1=1")) (dCons (dC (.str "2: 1-0=1")) dNil))))))))))))))) (dSeq (dSet 12 (d2 oAdd (dVar 12) (dLst (dCons (dC (.str "2: 0-1=0")) (dCons (dC (.str "2: 0-1=101")) (dCons (dC (.str "2: 0-1=01")) (dCons (dC (.str "2: 0-1=+1")) (dCons (dC (.str "2: 0-1=-1")) (dCons (dC (.str "2: 0-1=1.0")) (dCons (dC (.str "2: 0-1")) (dCons (dC (.str "3: 0-1=1")) dNil))))))))))) (dSeq (dSet 12 (d2 oAdd (dVar 12) (dLst (dCons (dC (.str "2; 0-1=1")) (dCons (dC (.str "02: 0-1=1")) (dCons (dC (.str "2: 0-1=1 0-1=2")) (dCons (dC (.str "2: 00-1=1")) (dCons (dC (.str "2: 0-1=1=1")) (dCons (dC (.str "2: 0--1=1")) (dCons (dC (.str "3: 0-2=1 0-1=1")) dNil)))))))))) (dSeq (dSet 12 (d2 oAdd (dVar 12) (dLst (dCons (dLst (dCons (dVar 3) dNil)) (dCons (dTup (dCons (dVar 3) dNil)) (dCons dEmp (dCons (dVar 2) (dCons (d2 oAdd (dVar 3) (dC (.str " "))) (dCons (d2 oAdd (dVar 3) (dC (.str "\n"))) dNil))))))))) (dSeq (dIfS (dTest (d2 oNe (dComp [13] (.nm 13) (diAny (dVar 12)) (dTest (d2 oNe (dCall r__law_outcome (dCons (dC (.int 0)) (dCons (dVar 13) dNil))) (dCall r__law_raises (dCons (dC (.str "text")) dNil)))) (dVar 13)) (dLst dNil))) (dRet (dC (.bl false))) dSkip) (dSeq (dFor (.nm 13) (diAny (dTup (dCons (dC .non) (dCons (dTup dNil) (dCons (dHas 2 (dV2 oIx 2 (dC (.int 1)))) (dCons (dVar 3) (dCons (dV1 oList 2) (dCons (dTup (dCons (dC (.int 2)) (dCons (dTup dNil) dNil))) dNil)))))))) (dIfS (dTest (d2 oNe (dCall r__law_outcome (dCons (dC (.int 1)) (dCons (dVar 13) dNil))) (dCall r__law_raises (dCons (dC (.str "net")) dNil)))) (dRet (dC (.bl false))) dSkip)) (dSeq (dSet 14 (dTup (dCons (dC (.int 3)) (dCons (dTup (dCons (dTup (dCons (dC (.int 0)) (dCons (dC (.int 1)) (dCons (dC (.int 2)) dNil)))) (dCons (dTup (dCons (dC (.int 1)) (dCons (dC (.int 2)) (dCons (dC (.int 30)) dNil)))) dNil))) dNil)))) (dRet (dAnd (d2 oEq (dCall r_parse_net (dCons (dC (.str "2: 0-1=100")) dNil)) (dTup (dCons (dC (.int 2)) (dCons (dTup (dCons (dTup (dCons (dC (.int 0)) (dCons (dC (.int 1)) (dCons (dC (.int 100)) dNil)))) dNil)) dNil)))) (d2 oEq (dCall r_parse_net (dCons (dC (.str "3: 0-1=2 1-2=30")) dNil)) (dVar 14)))))))))))))))))
def r_law : DL.Run := runFn 15 db_law
theorem in_law {a0 : D} {X : Str → List MO → Prop} {M : List MO} {Q : SV → Sx → Prop} (h : Ww X (db_law ⟨[some (.val a0), none, none, none, none, none, none, none, none, none, none, none, none, none, none], M⟩) (FinQ Q)) : Ww X (r_law [a0] M) Q := w_fn h
end T82
namespace T82
open PySem PySem.Spec PyProof.Rows L2 DL
structure Fx (K : PySem.W.Frag) (mg : Str → Option Value) : Prop where
  xb : excB K = true
  n_ValueError : mg "ValueError" = none
  n_all : mg "all" = none
  n_bool : mg "bool" = none
  n_int : mg "int" = none
  n_isinstance : mg "isinstance" = none
  n_len : mg "len" = none
  n_list : mg "list" = none
  n_range : mg "range" = none
  n_sorted : mg "sorted" = none
  n_str : mg "str" = none
  n_tuple : mg "tuple" = none
  x_InvalidNet : (He.Fa.exc "InvalidNet").ok K = true
  x_InvalidText : (He.Fa.exc "InvalidText").ok K = true
  g_InvalidDemands : mg "InvalidDemands" = some (.ref (He.ga K "InvalidDemands"))
  g_InvalidLine : mg "InvalidLine" = some (.ref (He.ga K "InvalidLine"))
  g_InvalidMost : mg "InvalidMost" = some (.ref (He.ga K "InvalidMost"))
  g_InvalidNames : mg "InvalidNames" = some (.ref (He.ga K "InvalidNames"))
  g_InvalidNet : mg "InvalidNet" = some (.ref (He.ga K "InvalidNet"))
  g_InvalidNumber : mg "InvalidNumber" = some (.ref (He.ga K "InvalidNumber"))
  g_InvalidPair : mg "InvalidPair" = some (.ref (He.ga K "InvalidPair"))
  g_InvalidRouting : mg "InvalidRouting" = some (.ref (He.ga K "InvalidRouting"))
  g_InvalidShare : mg "InvalidShare" = some (.ref (He.ga K "InvalidShare"))
  g_InvalidText : mg "InvalidText" = some (.ref (He.ga K "InvalidText"))
  g_InvalidTree : mg "InvalidTree" = some (.ref (He.ga K "InvalidTree"))
  g_NotJoined : mg "NotJoined" = some (.ref (He.ga K "NotJoined"))
  g_NothingToUndo : mg "NothingToUndo" = some (.ref (He.ga K "NothingToUndo"))
  g_RoadError : mg "RoadError" = some (.ref (He.ga K "RoadError"))
  g_TooMany : mg "TooMany" = some (.ref (He.ga K "TooMany"))
  g_is_between : mg "is_between" = some (.ref (He.ga K "is_between"))
  d_is_between : ∃ fd, FunD K "is_between" "is_between" (defArgs (Hd.top 17)) (defBody (Hd.top 17)) (defScope (Hd.top 17)) [] [] (He.ga K "is_between") fd
  g_is_joined : mg "is_joined" = some (.ref (He.ga K "is_joined"))
  d_is_joined : ∃ fd, FunD K "is_joined" "is_joined" (defArgs (Hd.top 20)) (defBody (Hd.top 20)) (defScope (Hd.top 20)) [] [] (He.ga K "is_joined") fd
  g_net_text : mg "net_text" = some (.ref (He.ga K "net_text"))
  d_net_text : ∃ fd, FunD K "net_text" "net_text" (defArgs (Hd.top 24)) (defBody (Hd.top 24)) (defScope (Hd.top 24)) [] [] (He.ga K "net_text") fd
  g_number_of : mg "number_of" = some (.ref (He.ga K "number_of"))
  d_number_of : ∃ fd, FunD K "number_of" "number_of" (defArgs (Hd.top 26)) (defBody (Hd.top 26)) (defScope (Hd.top 26)) [] [] (He.ga K "number_of") fd
  g__law_town : mg "_law_town" = some (.ref (He.ga K "_law_town"))
  d__law_town : ∃ fd, FunD K "_law_town" "_law_town" (defArgs (Hd.top 30)) (defBody (Hd.top 30)) (defScope (Hd.top 30)) [] [] (He.ga K "_law_town") fd
  g__law_draw : mg "_law_draw" = some (.ref (He.ga K "_law_draw"))
  d__law_draw : ∃ fd, FunD K "_law_draw" "_law_draw" (defArgs (Hd.top 31)) (defBody (Hd.top 31)) (defScope (Hd.top 31)) [] [] (He.ga K "_law_draw") fd
  g__law_name : mg "_law_name" = some (.ref (He.ga K "_law_name"))
  d__law_name : ∃ fd, FunD K "_law_name" "_law_name" (defArgs (Hd.top 34)) (defBody (Hd.top 34)) (defScope (Hd.top 34)) [] [] (He.ga K "_law_name") fd
  g__law_raises : mg "_law_raises" = some (.ref (He.ga K "_law_raises"))
  d__law_raises : ∃ fd, FunD K "_law_raises" "_law_raises" (defArgs (Hd.top 35)) (defBody (Hd.top 35)) (defScope (Hd.top 35)) [] [] (He.ga K "_law_raises") fd
  g__law_pairs : mg "_law_pairs" = some (.ref (He.ga K "_law_pairs"))
  d__law_pairs : ∃ fd, FunD K "_law_pairs" "_law_pairs" (defArgs (Hd.top 36)) (defBody (Hd.top 36)) (defScope (Hd.top 36)) [] [] (He.ga K "_law_pairs") fd
  g_is_line : mg "is_line" = some (.ref (He.ga K "is_line"))
  d_is_line : ∃ fd, FunD K "is_line" "is_line" (defArgs (Hd.top 19)) (defBody (Hd.top 19)) (defScope (Hd.top 19)) [] [] (He.ga K "is_line") fd
  g_line_of : mg "line_of" = some (.ref (He.ga K "line_of"))
  d_line_of : ∃ fd, FunD K "line_of" "line_of" (defArgs (Hd.top 27)) (defBody (Hd.top 27)) (defScope (Hd.top 27)) [] [] (He.ga K "line_of") fd
  g__law_pick : mg "_law_pick" = some (.ref (He.ga K "_law_pick"))
  d__law_pick : ∃ fd, FunD K "_law_pick" "_law_pick" (defArgs (Hd.top 32)) (defBody (Hd.top 32)) (defScope (Hd.top 32)) [] [] (He.ga K "_law_pick") fd
  g_is_net : mg "is_net" = some (.ref (He.ga K "is_net"))
  d_is_net : ∃ fd, FunD K "is_net" "is_net" (defArgs (Hd.top 21)) (defBody (Hd.top 21)) (defScope (Hd.top 21)) [] [] (He.ga K "is_net") fd
  g__law_net : mg "_law_net" = some (.ref (He.ga K "_law_net"))
  d__law_net : ∃ fd, FunD K "_law_net" "_law_net" (defArgs (Hd.top 37)) (defBody (Hd.top 37)) (defScope (Hd.top 37)) [] [] (He.ga K "_law_net") fd
  g_check_net : mg "check_net" = some (.ref (He.ga K "check_net"))
  d_check_net : ∃ fd, FunD K "check_net" "check_net" (defArgs (Hd.top 22)) (defBody (Hd.top 22)) (defScope (Hd.top 22)) [] [] (He.ga K "check_net") fd
  g_parse_net : mg "parse_net" = some (.ref (He.ga K "parse_net"))
  d_parse_net : ∃ fd, FunD K "parse_net" "parse_net" (defArgs (Hd.top 28)) (defBody (Hd.top 28)) (defScope (Hd.top 28)) [] [] (He.ga K "parse_net") fd
  g_format_net : mg "format_net" = some (.ref (He.ga K "format_net"))
  d_format_net : ∃ fd, FunD K "format_net" "format_net" (defArgs (Hd.top 25)) (defBody (Hd.top 25)) (defScope (Hd.top 25)) [] [] (He.ga K "format_net") fd
  g__law_call : mg "_law_call" = some (.ref (He.ga K "_law_call"))
  d__law_call : ∃ fd, FunD K "_law_call" "_law_call" (defArgs (Hd.top 38)) (defBody (Hd.top 38)) (defScope (Hd.top 38)) [] [] (He.ga K "_law_call") fd
  g__law_outcome : mg "_law_outcome" = some (.ref (He.ga K "_law_outcome"))
  d__law_outcome : ∃ fd, FunD K "_law_outcome" "_law_outcome" (defArgs (Hd.top 33)) (defBody (Hd.top 33)) (defScope (Hd.top 33)) [] [] (He.ga K "_law_outcome") fd
  g_law : mg "law" = some (.ref (He.ga K "law"))
  d_law : ∃ fd, FunD K "law" "law" (defArgs (Hd.top 39)) (defBody (Hd.top 39)) (defScope (Hd.top 39)) [] [] (He.ga K "law") fd
section
variable {P : Program} {w : World} {K : PySem.W.Frag} {mg : Str → Option Value} {base : Heap}
theorem nd_is_between : (["value", "low", "high"] : List Str).Nodup := by decide +kernel
theorem ok_is_between (C : Fx K mg) : Def P w K mg base "is_between" 1 3 r_is_between := by
  obtain ⟨fd, F⟩ := C.d_is_between
  refine def_ok' (N := ["value", "low", "high"]) (ps := ["value", "low", "high"]) C.g_is_between F ⟨rfl, rfl, rfl, nd_is_between, rfl, by decide +kernel, by decide +kernel⟩ rfl (fun _ _ _ _ _ _ us hl => match us, hl with | [_, _, _], _ => rfl) fun cdv A outer s H E hr => ?_
  have nd := nd_is_between
  have tk := tk_of (P := P) (w := w) (K := K) (mg := mg) (base := base) (N := ["value", "low", "high"]) (qual := "is_between") (scope := defScope (Hd.top 17)) (f := He.ga K "is_between") (cd := cdv) (A := A) (outer := outer) (s := s) (H := H) (E := E)
  exact (snb_one (sns_ret (snd_and (snd_isi rfl C.n_isinstance rfl C.n_int (by decide +kernel) (snd_pv (pv 0))) (snd_and (snd_not (snd_isi rfl C.n_isinstance rfl C.n_bool (by decide +kernel) (snd_pv (pv 0)))) (snd_one (snd_chain op_le op_le o2_le o2_le (snd_pv (pv 1)) (snd_pv (pv 0)) (snd_pv (pv 2))))))))
theorem nd_is_joined : (["places", "lines", "met", "time", "i", "j", "room", "place"] : List Str).Nodup := by decide +kernel
theorem ok_is_joined (C : Fx K mg) : Def P w K mg base "is_joined" 1 2 r_is_joined := by
  obtain ⟨fd, F⟩ := C.d_is_joined
  refine def_ok' (N := ["places", "lines", "met", "time", "i", "j", "room", "place"]) (ps := ["places", "lines"]) C.g_is_joined F ⟨rfl, rfl, rfl, nd_is_joined, rfl, by decide +kernel, by decide +kernel⟩ rfl (fun _ _ _ _ _ _ us hl => match us, hl with | [_, _], _ => rfl) fun cdv A outer s H E hr => ?_
  have nd := nd_is_joined
  have tk := tk_of (P := P) (w := w) (K := K) (mg := mg) (base := base) (N := ["places", "lines", "met", "time", "i", "j", "room", "place"]) (qual := "is_joined") (scope := defScope (Hd.top 20)) (f := He.ga K "is_joined") (cd := cdv) (A := A) (outer := outer) (s := s) (H := H) (E := E)
  exact (snb_cons (sns_set nd rfl (by first | exact Or.inl rfl | exact Or.inr rfl) (snd_lst (snd_cons snd_int snd_nil))) (snb_cons (sns_for (passes_of rfl) rfl (snd_iR1 rfl C.n_range (snd_pv (pv 0))) (sng_nm nd rfl (by first | exact Or.inl rfl | exact Or.inr rfl)) (snb_one (sns_for (passes_of rfl) rfl (snd_iAny (snd_pv (pv 1))) (sng_tp rfl (sngs_cons (sng_nm nd rfl (by first | exact Or.inl rfl | exact Or.inr rfl)) (sngs_cons (sng_nm nd rfl (by first | exact Or.inl rfl | exact Or.inr rfl)) (sngs_cons (sng_nm nd rfl (by first | exact Or.inl rfl | exact Or.inr rfl)) sngs_nil))) rfl) (snb_one (sns_if (snt_cmp (op_neD hr.units) o2_ne (snd_cmpW (opr_in (hu65_of hr)) ow_in (snd_pv (pv 4)) (pv 2) rfl) (snd_cmpW (opr_in (hu65_of hr)) ow_in (snd_pv (pv 5)) (pv 2) rfl) rfl) (snb_one (sns_expr (snd_mut mut_extend PySem.F.slot_list_extend PySem.F.type_list_extend mt_extend (pv 2) (snd_cons (snd_comp (own := [("place", 7)]) rfl nd (snd_iAny (snd_tup (snd_cons (snd_pv (pv 4)) (snd_cons (snd_pv (pv 5)) snd_nil)))) (blkOk_by (by kernel_rfl)) (by decide) (fun s H C' cl fp => (sng_nm nd rfl (by first | exact Or.inl rfl | exact Or.inr rfl))) (fun s H C' cl fp => (snts_one (snt_cmpW (opr_notIn (hu65_of hr)) ow_in (snd_pv (pv 7)) (pv 2) rfl))) (fun s H C' cl fp => (snd_pv (pv 7)))) snd_nil)))) snb_nil))))) (snb_one (sns_ret (snd_cmp (op_eqD hr.units) o2_eq (snd_callBV cr_len ou_len rfl C.n_len (by decide +kernel) (pv 2)) (snd_pv (pv 0)) rfl)))))
theorem nd_net_text : (["net", "i", "j", "room"] : List Str).Nodup := by decide +kernel
theorem ok_net_text (C : Fx K mg) : Def P w K mg base "net_text" 1 1 r_net_text := by
  obtain ⟨fd, F⟩ := C.d_net_text
  refine def_ok' (N := ["net", "i", "j", "room"]) (ps := ["net"]) C.g_net_text F ⟨rfl, rfl, rfl, nd_net_text, rfl, by decide +kernel, by decide +kernel⟩ rfl (fun _ _ _ _ _ _ us hl => match us, hl with | [_], _ => rfl) fun cdv A outer s H E hr => ?_
  have nd := nd_net_text
  have tk := tk_of (P := P) (w := w) (K := K) (mg := mg) (base := base) (N := ["net", "i", "j", "room"]) (qual := "net_text") (scope := defScope (Hd.top 24)) (f := He.ga K "net_text") (cd := cdv) (A := A) (outer := outer) (s := s) (H := H) (E := E)
  exact (snb_one (sns_ret (snd_m1 PySem.F.slot_str_join PySem.F.type_str_join mt_join o2_join snd_str (snd_add (snd_lst (snd_cons (snd_joined (.cons (snd_fmt (snd_ixV (hu_of hr) (pv 0) snd_int (fun _ _ => rfl))) (.cons snd_str .nil))) snd_nil)) (snd_comp (own := [("i", 1), ("j", 2), ("room", 3)]) rfl nd (snd_iAny (snd_ixV (hu_of hr) (pv 0) snd_int (fun _ _ => rfl))) (blkOk_by (by kernel_rfl)) (by decide) (fun s H C' cl fp => (sng_tp rfl (sngs_cons (sng_nm nd rfl (by first | exact Or.inl rfl | exact Or.inr rfl)) (sngs_cons (sng_nm nd rfl (by first | exact Or.inl rfl | exact Or.inr rfl)) (sngs_cons (sng_nm nd rfl (by first | exact Or.inl rfl | exact Or.inr rfl)) sngs_nil))) rfl)) (fun s H C' cl fp => snts_nil) (fun s H C' cl fp => (snd_joined (.cons (snd_fmt (snd_pv (pv 1))) (.cons snd_str (.cons (snd_fmt (snd_pv (pv 2))) (.cons snd_str (.cons (snd_fmt (snd_pv (pv 3))) .nil))))))))))))
theorem nd_number_of : (["word", "sign"] : List Str).Nodup := by decide +kernel
theorem ok_number_of (C : Fx K mg) : Def P w K mg base "number_of" 1 1 r_number_of := by
  obtain ⟨fd, F⟩ := C.d_number_of
  refine def_ok' (N := ["word", "sign"]) (ps := ["word"]) C.g_number_of F ⟨rfl, rfl, rfl, nd_number_of, rfl, by decide +kernel, by decide +kernel⟩ rfl (fun _ _ _ _ _ _ us hl => match us, hl with | [_], _ => rfl) fun cdv A outer s H E hr => ?_
  have nd := nd_number_of
  have tk := tk_of (P := P) (w := w) (K := K) (mg := mg) (base := base) (N := ["word", "sign"]) (qual := "number_of") (scope := defScope (Hd.top 26)) (f := He.ga K "number_of") (cd := cdv) (A := A) (outer := outer) (s := s) (H := H) (E := E)
  exact (snb_cons (sns_if (snt_w (snw_or (snt_not (snt_chain op_le op_le o2_le o2_le snd_int (snd_callBV cr_len ou_len rfl C.n_len (by decide +kernel) (pv 0)) snd_int)) (snw_or1 (snt_not (snt_val (snd_callB (cr_all rfl) (OpU.n ou_all) rfl C.n_all (by decide +kernel) (snd_cons (snd_comp (own := [("sign", 1)]) rfl nd (snd_iAny (snd_pv (pv 0))) (blkOk_by (by kernel_rfl)) (by decide) (fun s H C' cl fp => (sng_nm nd rfl (by first | exact Or.inl rfl | exact Or.inr rfl))) (fun s H C' cl fp => snts_nil) (fun s H C' cl fp => (snd_cmp (opr_in (hu65_of hr)) ow_in.op (snd_pv (pv 1)) snd_str rfl))) snd_nil))))))) (snb_one (sns_ret snd_non)) snb_nil) (snb_one (sns_ret (snd_callTy cr_int (Op1.n o1_int) rfl C.n_int (by decide +kernel) (snd_cons (snd_pv (pv 0)) snd_nil)))))
theorem nd__law_town : (["_law_script"] : List Str).Nodup := by decide +kernel
theorem ok__law_town (C : Fx K mg) : Def P w K mg base "_law_town" 1 1 r__law_town := by
  obtain ⟨fd, F⟩ := C.d__law_town
  refine def_ok' (N := ["_law_script"]) (ps := ["_law_script"]) C.g__law_town F ⟨rfl, rfl, rfl, nd__law_town, rfl, by decide +kernel, by decide +kernel⟩ rfl (fun _ _ _ _ _ _ us hl => match us, hl with | [_], _ => rfl) fun cdv A outer s H E hr => ?_
  have nd := nd__law_town
  have tk := tk_of (P := P) (w := w) (K := K) (mg := mg) (base := base) (N := ["_law_script"]) (qual := "_law_town") (scope := defScope (Hd.top 30)) (f := He.ga K "_law_town") (cd := cdv) (A := A) (outer := outer) (s := s) (H := H) (E := E)
  exact (snb_one (sns_ret (snd_add (snd_lst (snd_cons snd_int snd_nil)) (snd_callTyV (cr_list rfl) ou_list rfl C.n_list (by decide +kernel) (pv 0)))))
theorem nd__law_draw : (["_law_script", "_law_town_here", "_law_limit", "_law_at", "_law_left", "_law_number"] : List Str).Nodup := by decide +kernel
theorem ok__law_draw (C : Fx K mg) : Def P w K mg base "_law_draw" 1 3 r__law_draw := by
  obtain ⟨fd, F⟩ := C.d__law_draw
  refine def_ok' (N := ["_law_script", "_law_town_here", "_law_limit", "_law_at", "_law_left", "_law_number"]) (ps := ["_law_script", "_law_town_here", "_law_limit"]) C.g__law_draw F ⟨rfl, rfl, rfl, nd__law_draw, rfl, by decide +kernel, by decide +kernel⟩ rfl (fun _ _ _ _ _ _ us hl => match us, hl with | [_, _, _], _ => rfl) fun cdv A outer s H E hr => ?_
  have nd := nd__law_draw
  have tk := tk_of (P := P) (w := w) (K := K) (mg := mg) (base := base) (N := ["_law_script", "_law_town_here", "_law_limit", "_law_at", "_law_left", "_law_number"]) (qual := "_law_draw") (scope := defScope (Hd.top 31)) (f := He.ga K "_law_draw") (cd := cdv) (A := A) (outer := outer) (s := s) (H := H) (E := E)
  exact (snb_cons (sns_setIx (hu_of hr) (snd_add (snd_ixV (hu_of hr) (pv 1) snd_int (fun _ _ => rfl)) snd_int) (pv 1) snd_int) (snb_cons (sns_if (snt_cmpV (op_eqD hr.units) ov_eq (pv 0) (snd_lst snd_nil) rfl) (snb_one (sns_ret (snd_mod (snd_fdiv (snd_mul (snd_mul (snd_ixV (hu_of hr) (pv 1) snd_int (fun _ _ => rfl)) (snd_ixV (hu_of hr) (pv 1) snd_int (fun _ _ => rfl))) snd_int) snd_int) (snd_pv (pv 2))))) snb_nil) (snb_cons (sns_set nd rfl (by first | exact Or.inl rfl | exact Or.inr rfl) (snd_mod (snd_ixV (hu_of hr) (pv 1) snd_int (fun _ _ => rfl)) (snd_callBV cr_len ou_len rfl C.n_len (by decide +kernel) (pv 0)))) (snb_cons (sns_set nd rfl (by first | exact Or.inl rfl | exact Or.inr rfl) (snd_ixV (hu_of hr) (pv 1) (snd_add snd_int (snd_pv (pv 3))) (fun _ _ => rfl))) (snb_cons (sns_if (snt_w (snw_and (snt_cmp op_ge o2_ge (snd_ixV (hu_of hr) (pv 0) (snd_pv (pv 3)) (fun _ _ => rfl)) (snd_pow snd_int snd_int) rfl) (snw_and1 (snt_cmp op_gt o2_gt (snd_pv (pv 4)) snd_int rfl)))) (snb_cons (sns_setIx (hu_of hr) (snd_fdiv (snd_pv (pv 4)) (snd_pv (pv 2))) (pv 1) (snd_add snd_int (snd_pv (pv 3)))) (snb_one (sns_ret (snd_mod (snd_pv (pv 4)) (snd_pv (pv 2)))))) snb_nil) (snb_cons (sns_set nd rfl (by first | exact Or.inl rfl | exact Or.inr rfl) (snd_mod (snd_add (snd_ixV (hu_of hr) (pv 0) (snd_pv (pv 3)) (fun _ _ => rfl)) (snd_mul snd_int (snd_ixV (hu_of hr) (pv 1) snd_int (fun _ _ => rfl)))) snd_int)) (snb_cons (sns_set nd rfl (by first | exact Or.inl rfl | exact Or.inr rfl) (snd_mod (snd_pow (snd_pv (pv 5)) snd_int) snd_int)) (snb_one (sns_ret (snd_mod (snd_fdiv (snd_mod (snd_add (snd_mul (snd_fdiv (snd_pv (pv 5)) snd_int) snd_int) (snd_pv (pv 5))) snd_int) snd_int) (snd_pv (pv 2))))))))))))
theorem nd__law_name : (["_law_caught", "_law_found"] : List Str).Nodup := by decide +kernel
theorem ok__law_name (C : Fx K mg) : Def P w K mg base "_law_name" 1 1 r__law_name := by
  obtain ⟨fd, F⟩ := C.d__law_name
  refine def_ok' (N := ["_law_caught", "_law_found"]) (ps := ["_law_caught"]) C.g__law_name F ⟨rfl, rfl, rfl, nd__law_name, rfl, by decide +kernel, by decide +kernel⟩ rfl (fun _ _ _ _ _ _ us hl => match us, hl with | [_], _ => rfl) fun cdv A outer s H E hr => ?_
  have nd := nd__law_name
  have tk := tk_of (P := P) (w := w) (K := K) (mg := mg) (base := base) (N := ["_law_caught", "_law_found"]) (qual := "_law_name") (scope := defScope (Hd.top 34)) (f := He.ga K "_law_name") (cd := cdv) (A := A) (outer := outer) (s := s) (H := H) (E := E)
  exact (snb_cons (sns_if (snt_not (snt_val (snd_isVE C.xb rfl C.n_isinstance rfl C.n_ValueError (snd_pv (pv 0))))) (snb_one (sns_ret (snd_neg snd_int))) snb_nil) (snb_cons (sns_set nd rfl (by first | exact Or.inl rfl | exact Or.inr rfl) (snd_lst (snd_cons (snd_isX C.xb rfl C.n_isinstance rfl C.g_InvalidNet (snd_pv (pv 0))) (snd_cons (snd_isX C.xb rfl C.n_isinstance rfl C.g_InvalidPair (snd_pv (pv 0))) snd_nil)))) (snb_cons (sns_set nd rfl (by first | exact Or.inl rfl | exact Or.inr rfl) (snd_add (snd_pv (pv 1)) (snd_lst (snd_cons (snd_isX C.xb rfl C.n_isinstance rfl C.g_InvalidRouting (snd_pv (pv 0))) (snd_cons (snd_isX C.xb rfl C.n_isinstance rfl C.g_InvalidDemands (snd_pv (pv 0))) snd_nil))))) (snb_cons (sns_set nd rfl (by first | exact Or.inl rfl | exact Or.inr rfl) (snd_add (snd_pv (pv 1)) (snd_lst (snd_cons (snd_isX C.xb rfl C.n_isinstance rfl C.g_InvalidNumber (snd_pv (pv 0))) (snd_cons (snd_isX C.xb rfl C.n_isinstance rfl C.g_InvalidShare (snd_pv (pv 0))) snd_nil))))) (snb_cons (sns_set nd rfl (by first | exact Or.inl rfl | exact Or.inr rfl) (snd_add (snd_pv (pv 1)) (snd_lst (snd_cons (snd_isX C.xb rfl C.n_isinstance rfl C.g_InvalidTree (snd_pv (pv 0))) (snd_cons (snd_isX C.xb rfl C.n_isinstance rfl C.g_InvalidLine (snd_pv (pv 0))) snd_nil))))) (snb_cons (sns_set nd rfl (by first | exact Or.inl rfl | exact Or.inr rfl) (snd_add (snd_pv (pv 1)) (snd_lst (snd_cons (snd_isX C.xb rfl C.n_isinstance rfl C.g_InvalidNames (snd_pv (pv 0))) (snd_cons (snd_isX C.xb rfl C.n_isinstance rfl C.g_InvalidMost (snd_pv (pv 0))) snd_nil))))) (snb_cons (sns_set nd rfl (by first | exact Or.inl rfl | exact Or.inr rfl) (snd_add (snd_pv (pv 1)) (snd_lst (snd_cons (snd_isX C.xb rfl C.n_isinstance rfl C.g_InvalidText (snd_pv (pv 0))) (snd_cons (snd_isX C.xb rfl C.n_isinstance rfl C.g_NotJoined (snd_pv (pv 0))) snd_nil))))) (snb_cons (sns_set nd rfl (by first | exact Or.inl rfl | exact Or.inr rfl) (snd_add (snd_pv (pv 1)) (snd_lst (snd_cons (snd_isX C.xb rfl C.n_isinstance rfl C.g_TooMany (snd_pv (pv 0))) (snd_cons (snd_isX C.xb rfl C.n_isinstance rfl C.g_NothingToUndo (snd_pv (pv 0))) snd_nil))))) (snb_one (sns_ret (snd_ifE (snt_cmp (op_eqD hr.units) o2_eq (snd_ask ask_count PySem.F.slot_list_count PySem.F.type_list_count (mt_countD (hu65_of hr)) (pv 1) (snd_cons snd_bl snd_nil)) snd_int rfl) (snd_ask ask_index PySem.F.slot_list_index PySem.F.type_list_index (mt_indexD (hu65_of hr)) (pv 1) (snd_cons snd_bl snd_nil)) (snd_neg snd_int))))))))))))
theorem nd__law_raises : (["_law_name_here", "_law_some"] : List Str).Nodup := by decide +kernel
theorem ok__law_raises (C : Fx K mg) : Def P w K mg base "_law_raises" 1 1 r__law_raises := by
  obtain ⟨fd, F⟩ := C.d__law_raises
  refine def_ok' (N := ["_law_name_here", "_law_some"]) (ps := ["_law_name_here"]) C.g__law_raises F ⟨rfl, rfl, rfl, nd__law_raises, rfl, by decide +kernel, by decide +kernel⟩ rfl (fun _ _ _ _ _ _ us hl => match us, hl with | [_], _ => rfl) fun cdv A outer s H E hr => ?_
  have nd := nd__law_raises
  have tk := tk_of (P := P) (w := w) (K := K) (mg := mg) (base := base) (N := ["_law_name_here", "_law_some"]) (qual := "_law_raises") (scope := defScope (Hd.top 35)) (f := He.ga K "_law_raises") (cd := cdv) (A := A) (outer := outer) (s := s) (H := H) (E := E)
  exact (snb_cons (sns_set nd rfl (by first | exact Or.inl rfl | exact Or.inr rfl) (snd_lst (snd_cons snd_str (snd_cons snd_str (snd_cons snd_str (snd_cons snd_str (snd_cons snd_str (snd_cons snd_str (snd_cons snd_str snd_nil))))))))) (snb_cons (sns_set nd rfl (by first | exact Or.inl rfl | exact Or.inr rfl) (snd_add (snd_pv (pv 1)) (snd_lst (snd_cons snd_str (snd_cons snd_str (snd_cons snd_str (snd_cons snd_str (snd_cons snd_str (snd_cons snd_str (snd_cons snd_str snd_nil)))))))))) (snb_one (sns_ret (snd_tup (snd_cons snd_str (snd_cons (snd_ask ask_index PySem.F.slot_list_index PySem.F.type_list_index (mt_indexD (hu65_of hr)) (pv 1) (snd_cons (snd_pv (pv 0)) snd_nil)) snd_nil)))))))
theorem nd__law_pairs : (["_law_places", "_law_found", "_law_i", "_law_j"] : List Str).Nodup := by decide +kernel
theorem ok__law_pairs (C : Fx K mg) : Def P w K mg base "_law_pairs" 1 1 r__law_pairs := by
  obtain ⟨fd, F⟩ := C.d__law_pairs
  refine def_ok' (N := ["_law_places", "_law_found", "_law_i", "_law_j"]) (ps := ["_law_places"]) C.g__law_pairs F ⟨rfl, rfl, rfl, nd__law_pairs, rfl, by decide +kernel, by decide +kernel⟩ rfl (fun _ _ _ _ _ _ us hl => match us, hl with | [_], _ => rfl) fun cdv A outer s H E hr => ?_
  have nd := nd__law_pairs
  have tk := tk_of (P := P) (w := w) (K := K) (mg := mg) (base := base) (N := ["_law_places", "_law_found", "_law_i", "_law_j"]) (qual := "_law_pairs") (scope := defScope (Hd.top 36)) (f := He.ga K "_law_pairs") (cd := cdv) (A := A) (outer := outer) (s := s) (H := H) (E := E)
  exact (snb_cons (sns_set nd rfl (by first | exact Or.inl rfl | exact Or.inr rfl) (snd_lst snd_nil)) (snb_cons (sns_for (passes_of rfl) rfl (snd_iR1 rfl C.n_range (snd_pv (pv 0))) (sng_nm nd rfl (by first | exact Or.inl rfl | exact Or.inr rfl)) (snb_one (sns_set nd rfl (by first | exact Or.inl rfl | exact Or.inr rfl) (snd_add (snd_pv (pv 1)) (snd_comp (own := [("_law_j", 3)]) rfl nd (snd_iR2 rfl C.n_range (snd_add (snd_pv (pv 2)) snd_int) (snd_pv (pv 0))) (blkOk_by (by kernel_rfl)) (by decide) (fun s H C' cl fp => (sng_nm nd rfl (by first | exact Or.inl rfl | exact Or.inr rfl))) (fun s H C' cl fp => snts_nil) (fun s H C' cl fp => (snd_tup (snd_cons (snd_pv (pv 2)) (snd_cons (snd_pv (pv 3)) snd_nil))))))))) (snb_one (sns_ret (snd_take (pv 1))))))
theorem nd_is_line : (["places", "value"] : List Str).Nodup := by decide +kernel
theorem ok_is_line (C : Fx K mg) : Def P w K mg base "is_line" 2 2 r_is_line := by
  obtain ⟨fd, F⟩ := C.d_is_line
  have c_is_between := ok_is_between (P := P) (w := w) (base := base) C
  refine def_ok' (N := ["places", "value"]) (ps := ["places", "value"]) C.g_is_line F ⟨rfl, rfl, rfl, nd_is_line, rfl, by decide +kernel, by decide +kernel⟩ rfl (fun _ _ _ _ _ _ us hl => match us, hl with | [_, _], _ => rfl) fun cdv A outer s H E hr => ?_
  have nd := nd_is_line
  have tk := tk_of (P := P) (w := w) (K := K) (mg := mg) (base := base) (N := ["places", "value"]) (qual := "is_line") (scope := defScope (Hd.top 19)) (f := He.ga K "is_line") (cd := cdv) (A := A) (outer := outer) (s := s) (H := H) (E := E)
  exact (snb_cons (sns_if (snt_w (snw_or (snt_not (snt_val (snd_isi rfl C.n_isinstance rfl C.n_tuple (by decide +kernel) (snd_pv (pv 1))))) (snw_or (snt_cmp (op_neD hr.units) o2_ne (snd_callBV cr_len ou_len rfl C.n_len (by decide +kernel) (pv 1)) snd_int rfl) (snw_or1 (snt_not (snt_val (snd_call c_is_between (hr.mono (by decide)) rfl (passes_call tk fun _ _ _ _ h => h) (snd_cons (snd_ixV (hu_of hr) (pv 1) snd_int (fun _ _ => rfl)) (snd_cons snd_int (snd_cons (snd_sub (snd_pv (pv 0)) snd_int) snd_nil))) rfl (lenA_cons (lenA_cons (lenA_cons lenA_nil)))))))))) (snb_one (sns_ret snd_bl)) snb_nil) (snb_one (sns_ret (snd_and (snd_call c_is_between (hr.mono (by decide)) rfl (passes_call tk fun _ _ _ _ h => h) (snd_cons (snd_ixV (hu_of hr) (pv 1) snd_int (fun _ _ => rfl)) (snd_cons (snd_add (snd_ixV (hu_of hr) (pv 1) snd_int (fun _ _ => rfl)) snd_int) (snd_cons (snd_sub (snd_pv (pv 0)) snd_int) snd_nil))) rfl (lenA_cons (lenA_cons (lenA_cons lenA_nil)))) (snd_one (snd_call c_is_between (hr.mono (by decide)) rfl (passes_call tk fun _ _ _ _ h => h) (snd_cons (snd_ixV (hu_of hr) (pv 1) snd_int (fun _ _ => rfl)) (snd_cons snd_int (snd_cons snd_int snd_nil))) rfl (lenA_cons (lenA_cons (lenA_cons lenA_nil)))))))))
theorem nd_line_of : (["word", "ends", "mark", "room", "i", "dash", "j"] : List Str).Nodup := by decide +kernel
theorem ok_line_of (C : Fx K mg) : Def P w K mg base "line_of" 2 1 r_line_of := by
  obtain ⟨fd, F⟩ := C.d_line_of
  have c_number_of := ok_number_of (P := P) (w := w) (base := base) C
  refine def_ok' (N := ["word", "ends", "mark", "room", "i", "dash", "j"]) (ps := ["word"]) C.g_line_of F ⟨rfl, rfl, rfl, nd_line_of, rfl, by decide +kernel, by decide +kernel⟩ rfl (fun _ _ _ _ _ _ us hl => match us, hl with | [_], _ => rfl) fun cdv A outer s H E hr => ?_
  have nd := nd_line_of
  have tk := tk_of (P := P) (w := w) (K := K) (mg := mg) (base := base) (N := ["word", "ends", "mark", "room", "i", "dash", "j"]) (qual := "line_of") (scope := defScope (Hd.top 27)) (f := He.ga K "line_of") (cd := cdv) (A := A) (outer := outer) (s := s) (H := H) (E := E)
  exact (snb_cons (sns_unp (snd_m1 PySem.F.slot_str_partition PySem.F.type_str_partition mt_partition o2_partition (snd_pv (pv 0)) snd_str) (sng_tp rfl (sngs_cons (sng_nm nd rfl (by first | exact Or.inl rfl | exact Or.inr rfl)) (sngs_cons (sng_nm nd rfl (by first | exact Or.inl rfl | exact Or.inr rfl)) (sngs_cons (sng_nm nd rfl (by first | exact Or.inl rfl | exact Or.inr rfl)) sngs_nil))) rfl)) (snb_cons (sns_unp (snd_m1 PySem.F.slot_str_partition PySem.F.type_str_partition mt_partition o2_partition (snd_pv (pv 1)) snd_str) (sng_tp rfl (sngs_cons (sng_nm nd rfl (by first | exact Or.inl rfl | exact Or.inr rfl)) (sngs_cons (sng_nm nd rfl (by first | exact Or.inl rfl | exact Or.inr rfl)) (sngs_cons (sng_nm nd rfl (by first | exact Or.inl rfl | exact Or.inr rfl)) sngs_nil))) rfl)) (snb_one (sns_ret (snd_tup (snd_cons (snd_call c_number_of (hr.mono (by decide)) rfl (passes_call tk fun _ _ _ _ h => h) (snd_cons (snd_pv (pv 4)) snd_nil) rfl (lenA_cons lenA_nil)) (snd_cons (snd_call c_number_of (hr.mono (by decide)) rfl (passes_call tk fun _ _ _ _ h => h) (snd_cons (snd_pv (pv 6)) snd_nil) rfl (lenA_cons lenA_nil)) (snd_cons (snd_call c_number_of (hr.mono (by decide)) rfl (passes_call tk fun _ _ _ _ h => h) (snd_cons (snd_pv (pv 3)) snd_nil) rfl (lenA_cons lenA_nil)) snd_nil))))))))
theorem nd__law_pick : (["_law_script", "_law_town_here", "_law_choices"] : List Str).Nodup := by decide +kernel
theorem ok__law_pick (C : Fx K mg) : Def P w K mg base "_law_pick" 2 3 r__law_pick := by
  obtain ⟨fd, F⟩ := C.d__law_pick
  have c__law_draw := ok__law_draw (P := P) (w := w) (base := base) C
  refine def_ok' (N := ["_law_script", "_law_town_here", "_law_choices"]) (ps := ["_law_script", "_law_town_here", "_law_choices"]) C.g__law_pick F ⟨rfl, rfl, rfl, nd__law_pick, rfl, by decide +kernel, by decide +kernel⟩ rfl (fun _ _ _ _ _ _ us hl => match us, hl with | [_, _, _], _ => rfl) fun cdv A outer s H E hr => ?_
  have nd := nd__law_pick
  have tk := tk_of (P := P) (w := w) (K := K) (mg := mg) (base := base) (N := ["_law_script", "_law_town_here", "_law_choices"]) (qual := "_law_pick") (scope := defScope (Hd.top 32)) (f := He.ga K "_law_pick") (cd := cdv) (A := A) (outer := outer) (s := s) (H := H) (E := E)
  exact (snb_one (sns_ret (snd_ixV (hu_of hr) (pv 2) (snd_call c__law_draw (hr.mono (by decide)) rfl (passes_call tk fun _ _ _ _ h => h) (snd_cons (snd_pv (pv 0)) (snd_cons (snd_pv (pv 1)) (snd_cons (snd_callBV cr_len ou_len rfl C.n_len (by decide +kernel) (pv 2)) snd_nil))) rfl (lenA_cons (lenA_cons (lenA_cons lenA_nil)))) (fun _ _ => rfl))))
theorem nd_is_net : (["value", "k", "one"] : List Str).Nodup := by decide +kernel
theorem ok_is_net (C : Fx K mg) : Def P w K mg base "is_net" 3 1 r_is_net := by
  obtain ⟨fd, F⟩ := C.d_is_net
  have c_is_between := ok_is_between (P := P) (w := w) (base := base) C
  have c_is_line := ok_is_line (P := P) (w := w) (base := base) C
  have c_is_joined := ok_is_joined (P := P) (w := w) (base := base) C
  refine def_ok' (N := ["value", "k", "one"]) (ps := ["value"]) C.g_is_net F ⟨rfl, rfl, rfl, nd_is_net, rfl, by decide +kernel, by decide +kernel⟩ rfl (fun _ _ _ _ _ _ us hl => match us, hl with | [_], _ => rfl) fun cdv A outer s H E hr => ?_
  have nd := nd_is_net
  have tk := tk_of (P := P) (w := w) (K := K) (mg := mg) (base := base) (N := ["value", "k", "one"]) (qual := "is_net") (scope := defScope (Hd.top 21)) (f := He.ga K "is_net") (cd := cdv) (A := A) (outer := outer) (s := s) (H := H) (E := E)
  exact (snb_cons (sns_if (snt_w (snw_or (snt_not (snt_val (snd_isi rfl C.n_isinstance rfl C.n_tuple (by decide +kernel) (snd_pv (pv 0))))) (snw_or (snt_cmp (op_neD hr.units) o2_ne (snd_callBV cr_len ou_len rfl C.n_len (by decide +kernel) (pv 0)) snd_int rfl) (snw_or1 (snt_not (snt_val (snd_call c_is_between (hr.mono (by decide)) rfl (passes_call tk fun _ _ _ _ h => h) (snd_cons (snd_ixV (hu_of hr) (pv 0) snd_int (fun _ _ => rfl)) (snd_cons snd_int (snd_cons snd_int snd_nil))) rfl (lenA_cons (lenA_cons (lenA_cons lenA_nil)))))))))) (snb_one (sns_ret snd_bl)) snb_nil) (snb_cons (sns_if (snt_w (snw_or (snt_not (snt_val (snd_isi rfl C.n_isinstance rfl C.n_tuple (by decide +kernel) (snd_ixV (hu_of hr) (pv 0) snd_int (fun _ _ => rfl))))) (snw_or (snt_cmp op_gt o2_gt (snd_callB cr_len (OpU.n ou_len) rfl C.n_len (by decide +kernel) (snd_cons (snd_ixV (hu_of hr) (pv 0) snd_int (fun _ _ => rfl)) snd_nil)) snd_int rfl) (snw_or1 (snt_not (snt_val (snd_callB (cr_all rfl) (OpU.n ou_all) rfl C.n_all (by decide +kernel) (snd_cons (snd_comp (own := [("one", 2)]) rfl nd (snd_iAny (snd_ixV (hu_of hr) (pv 0) snd_int (fun _ _ => rfl))) (blkOk_by (by kernel_rfl)) (by decide) (fun s H C' cl fp => (sng_nm nd rfl (by first | exact Or.inl rfl | exact Or.inr rfl))) (fun s H C' cl fp => snts_nil) (fun s H C' cl fp => (snd_call c_is_line (hr.mono (by decide)) rfl passL (snd_cons (snd_ixV (hu_of hr) (pv 0) snd_int (fun _ _ => rfl)) (snd_cons (snd_pv (pv 2)) snd_nil)) rfl (lenA_cons (lenA_cons lenA_nil))))) snd_nil)))))))) (snb_one (sns_ret snd_bl)) snb_nil) (snb_cons (sns_if (snt_not (snt_val (snd_callB (cr_all rfl) (OpU.n ou_all) rfl C.n_all (by decide +kernel) (snd_cons (snd_comp (own := [("k", 1)]) rfl nd (snd_iR1 rfl C.n_range (snd_sub (snd_callB cr_len (OpU.n ou_len) rfl C.n_len (by decide +kernel) (snd_cons (snd_ixV (hu_of hr) (pv 0) snd_int (fun _ _ => rfl)) snd_nil)) snd_int)) (blkOk_by (by kernel_rfl)) (by decide) (fun s H C' cl fp => (sng_nm nd rfl (by first | exact Or.inl rfl | exact Or.inr rfl))) (fun s H C' cl fp => snts_nil) (fun s H C' cl fp => (snd_cmp (opr_lt (hu0_of hr)) o2_lt (snd_sl (snd_ix (hu_of hr) (snd_ixV (hu_of hr) (pv 0) snd_int (fun _ _ => rfl)) (snd_pv (pv 1)) (fun _ _ => rfl)) snp_no (snp_at snd_int)) (snd_sl (snd_ix (hu_of hr) (snd_ixV (hu_of hr) (pv 0) snd_int (fun _ _ => rfl)) (snd_add (snd_pv (pv 1)) snd_int) (fun _ _ => rfl)) snp_no (snp_at snd_int)) rfl))) snd_nil)))) (snb_one (sns_ret snd_bl)) snb_nil) (snb_one (sns_ret (snd_call c_is_joined (hr.mono (by decide)) rfl (passes_call tk fun _ _ _ _ h => h) (snd_cons (snd_ixV (hu_of hr) (pv 0) snd_int (fun _ _ => rfl)) (snd_cons (snd_ixV (hu_of hr) (pv 0) snd_int (fun _ _ => rfl)) snd_nil)) rfl (lenA_cons (lenA_cons lenA_nil))))))))
theorem nd__law_net : (["_law_script", "_law_town_here", "_law_most", "_law_places", "_law_table", "_law_sizes", "_law_j", "_law_often", "_law_one", "_law_i"] : List Str).Nodup := by decide +kernel
theorem ok__law_net (C : Fx K mg) : Def P w K mg base "_law_net" 3 3 r__law_net := by
  obtain ⟨fd, F⟩ := C.d__law_net
  have c__law_draw := ok__law_draw (P := P) (w := w) (base := base) C
  have c__law_pick := ok__law_pick (P := P) (w := w) (base := base) C
  have c__law_pairs := ok__law_pairs (P := P) (w := w) (base := base) C
  refine def_ok' (N := ["_law_script", "_law_town_here", "_law_most", "_law_places", "_law_table", "_law_sizes", "_law_j", "_law_often", "_law_one", "_law_i"]) (ps := ["_law_script", "_law_town_here", "_law_most"]) C.g__law_net F ⟨rfl, rfl, rfl, nd__law_net, rfl, by decide +kernel, by decide +kernel⟩ rfl (fun _ _ _ _ _ _ us hl => match us, hl with | [_, _, _], _ => rfl) fun cdv A outer s H E hr => ?_
  have nd := nd__law_net
  have tk := tk_of (P := P) (w := w) (K := K) (mg := mg) (base := base) (N := ["_law_script", "_law_town_here", "_law_most", "_law_places", "_law_table", "_law_sizes", "_law_j", "_law_often", "_law_one", "_law_i"]) (qual := "_law_net") (scope := defScope (Hd.top 37)) (f := He.ga K "_law_net") (cd := cdv) (A := A) (outer := outer) (s := s) (H := H) (E := E)
  exact (snb_cons (sns_par2c rfl nd rfl rfl (by decide) (by first | exact Or.inl rfl | exact Or.inr rfl) (by first | exact Or.inl rfl | exact Or.inr rfl) rfl rfl (snd_add snd_int (snd_call c__law_draw (hr.mono (by decide)) rfl (passes_call tk fun _ _ _ _ h => h) (snd_cons (snd_pv (pv 0)) (snd_cons (snd_pv (pv 1)) (snd_cons (snd_sub (snd_pv (pv 2)) snd_int) snd_nil))) rfl (lenA_cons (lenA_cons (lenA_cons lenA_nil))))) snd_emp) (snb_cons (sns_set nd rfl (by first | exact Or.inl rfl | exact Or.inr rfl) (snd_call c__law_pick (hr.mono (by decide)) rfl (passes_call tk fun _ _ _ _ h => h) (snd_cons (snd_pv (pv 0)) (snd_cons (snd_pv (pv 1)) (snd_cons (snd_lst (snd_cons (snd_lst (snd_cons snd_int snd_nil)) (snd_cons (snd_lst (snd_cons snd_int (snd_cons snd_int (snd_cons snd_int snd_nil)))) (snd_cons (snd_lst (snd_cons snd_int (snd_cons snd_int (snd_cons snd_int snd_nil)))) snd_nil)))) snd_nil))) rfl (lenA_cons (lenA_cons (lenA_cons lenA_nil))))) (snb_cons (sns_for (passes_of rfl) rfl (snd_iR2 rfl C.n_range snd_int (snd_pv (pv 3))) (sng_nm nd rfl (by first | exact Or.inl rfl | exact Or.inr rfl)) (snb_one (sns_setIx (hu_of hr) (snd_call c__law_pick (hr.mono (by decide)) rfl (passes_call tk fun _ _ _ _ h => h) (snd_cons (snd_pv (pv 0)) (snd_cons (snd_pv (pv 1)) (snd_cons (snd_pv (pv 5)) snd_nil))) rfl (lenA_cons (lenA_cons (lenA_cons lenA_nil)))) (pv 4) (snd_tup (snd_cons (snd_call c__law_draw (hr.mono (by decide)) rfl (passes_call tk fun _ _ _ _ h => h) (snd_cons (snd_pv (pv 0)) (snd_cons (snd_pv (pv 1)) (snd_cons (snd_pv (pv 6)) snd_nil))) rfl (lenA_cons (lenA_cons (lenA_cons lenA_nil)))) (snd_cons (snd_pv (pv 6)) snd_nil)))))) (snb_cons (sns_set nd rfl (by first | exact Or.inl rfl | exact Or.inr rfl) (snd_call c__law_draw (hr.mono (by decide)) rfl (passes_call tk fun _ _ _ _ h => h) (snd_cons (snd_pv (pv 0)) (snd_cons (snd_pv (pv 1)) (snd_cons snd_int snd_nil))) rfl (lenA_cons (lenA_cons (lenA_cons lenA_nil))))) (snb_cons (sns_for (passes_of rfl) rfl (snd_iAny (snd_call c__law_pairs (hr.mono (by decide)) rfl (passes_call tk fun _ _ _ _ h => h) (snd_cons (snd_pv (pv 3)) snd_nil) rfl (lenA_cons lenA_nil))) (sng_nm nd rfl (by first | exact Or.inl rfl | exact Or.inr rfl)) (snb_one (sns_if (snt_w (snw_and (snt_cmpW (opr_notIn (hu65_of hr)) ow_in (snd_pv (pv 8)) (pv 4) rfl) (snw_and (snt_cmp (opr_lt (hu0_of hr)) o2_lt (snd_callBV cr_len ou_len rfl C.n_len (by decide +kernel) (pv 4)) snd_int rfl) (snw_and1 (snt_cmp (opr_lt (hu0_of hr)) o2_lt (snd_call c__law_draw (hr.mono (by decide)) rfl (passes_call tk fun _ _ _ _ h => h) (snd_cons (snd_pv (pv 0)) (snd_cons (snd_pv (pv 1)) (snd_cons snd_int snd_nil))) rfl (lenA_cons (lenA_cons (lenA_cons lenA_nil)))) (snd_pv (pv 7)) rfl))))) (snb_one (sns_setIx (hu_of hr) (snd_call c__law_pick (hr.mono (by decide)) rfl (passes_call tk fun _ _ _ _ h => h) (snd_cons (snd_pv (pv 0)) (snd_cons (snd_pv (pv 1)) (snd_cons (snd_pv (pv 5)) snd_nil))) rfl (lenA_cons (lenA_cons (lenA_cons lenA_nil)))) (pv 4) (snd_pv (pv 8)))) snb_nil))) (snb_one (sns_ret (snd_tup (snd_cons (snd_pv (pv 3)) (snd_cons (snd_callTy call_tuple_of (OpU.n ou_tupOf) rfl C.n_tuple (by decide +kernel) (snd_cons (snd_comp (own := [("_law_i", 9), ("_law_j", 6)]) rfl nd (snd_iAny (snd_callBV (cr_sort rfl hr.units) ou_sorted rfl C.n_sorted (by decide +kernel) (pv 4))) (blkOk_by (by kernel_rfl)) (by decide) (fun s H C' cl fp => (sng_tp rfl (sngs_cons (sng_nm nd rfl (by first | exact Or.inl rfl | exact Or.inr rfl)) (sngs_cons (sng_nm nd rfl (by first | exact Or.inl rfl | exact Or.inr rfl)) sngs_nil)) rfl)) (fun s H C' cl fp => snts_nil) (fun s H C' cl fp => (snd_tup (snd_cons (snd_pv (pv 9)) (snd_cons (snd_pv (pv 6)) (snd_cons (snd_ixV (hu_of hr) (pv 4) (snd_tup (snd_cons (snd_pv (pv 9)) (snd_cons (snd_pv (pv 6)) snd_nil))) (fun _ _ => rfl)) snd_nil)))))) snd_nil)) snd_nil))))))))))
theorem nd_check_net : (["value"] : List Str).Nodup := by decide +kernel
theorem ok_check_net (C : Fx K mg) : Def P w K mg base "check_net" 4 1 r_check_net := by
  obtain ⟨fd, F⟩ := C.d_check_net
  have c_is_net := ok_is_net (P := P) (w := w) (base := base) C
  refine def_ok' (N := ["value"]) (ps := ["value"]) C.g_check_net F ⟨rfl, rfl, rfl, nd_check_net, rfl, by decide +kernel, by decide +kernel⟩ rfl (fun _ _ _ _ _ _ us hl => match us, hl with | [_], _ => rfl) fun cdv A outer s H E hr => ?_
  have nd := nd_check_net
  have tk := tk_of (P := P) (w := w) (K := K) (mg := mg) (base := base) (N := ["value"]) (qual := "check_net") (scope := defScope (Hd.top 22)) (f := He.ga K "check_net") (cd := cdv) (A := A) (outer := outer) (s := s) (H := H) (E := E)
  exact (snb_one (sns_if (snt_not (snt_val (snd_call c_is_net (hr.mono (by decide)) rfl (passes_call tk fun _ _ _ _ h => h) (snd_cons (snd_pv (pv 0)) snd_nil) rfl (lenA_cons lenA_nil)))) (snb_one (sns_raise rfl tk C.g_InvalidNet C.x_InvalidNet rfl)) snb_nil))
theorem nd_parse_net : (["text", "words", "found", "word"] : List Str).Nodup := by decide +kernel
theorem ok_parse_net (C : Fx K mg) : Def P w K mg base "parse_net" 4 1 r_parse_net := by
  obtain ⟨fd, F⟩ := C.d_parse_net
  have c_line_of := ok_line_of (P := P) (w := w) (base := base) C
  have c_number_of := ok_number_of (P := P) (w := w) (base := base) C
  have c_is_net := ok_is_net (P := P) (w := w) (base := base) C
  have c_net_text := ok_net_text (P := P) (w := w) (base := base) C
  refine def_ok' (N := ["text", "words", "found", "word"]) (ps := ["text"]) C.g_parse_net F ⟨rfl, rfl, rfl, nd_parse_net, rfl, by decide +kernel, by decide +kernel⟩ rfl (fun _ _ _ _ _ _ us hl => match us, hl with | [_], _ => rfl) fun cdv A outer s H E hr => ?_
  have nd := nd_parse_net
  have tk := tk_of (P := P) (w := w) (K := K) (mg := mg) (base := base) (N := ["text", "words", "found", "word"]) (qual := "parse_net") (scope := defScope (Hd.top 28)) (f := He.ga K "parse_net") (cd := cdv) (A := A) (outer := outer) (s := s) (H := H) (E := E)
  exact (snb_cons (sns_if (snt_not (snt_val (snd_isi rfl C.n_isinstance rfl C.n_str (by decide +kernel) (snd_pv (pv 0))))) (snb_one (sns_raise rfl tk C.g_InvalidText C.x_InvalidText rfl)) snb_nil) (snb_cons (sns_set nd rfl (by first | exact Or.inl rfl | exact Or.inr rfl) (snd_m1 PySem.F.slot_str_split PySem.F.type_str_split mt_split o2_split (snd_pv (pv 0)) snd_str)) (snb_cons (sns_set nd rfl (by first | exact Or.inl rfl | exact Or.inr rfl) (snd_tup (snd_cons (snd_call c_number_of (hr.mono (by decide)) rfl (passes_call tk fun _ _ _ _ h => h) (snd_cons (snd_sl (snd_ixV (hu_of hr) (pv 1) snd_int (fun _ _ => rfl)) snp_no (snp_at (snd_neg snd_int))) snd_nil) rfl (lenA_cons lenA_nil)) (snd_cons (snd_callTy call_tuple_of (OpU.n ou_tupOf) rfl C.n_tuple (by decide +kernel) (snd_cons (snd_comp (own := [("word", 3)]) rfl nd (snd_iAny (snd_slV (pv 1) (snp_at snd_int) snp_no)) (blkOk_by (by kernel_rfl)) (by decide) (fun s H C' cl fp => (sng_nm nd rfl (by first | exact Or.inl rfl | exact Or.inr rfl))) (fun s H C' cl fp => snts_nil) (fun s H C' cl fp => (snd_call c_line_of (hr.mono (by decide)) rfl passL (snd_cons (snd_pv (pv 3)) snd_nil) rfl (lenA_cons lenA_nil)))) snd_nil)) snd_nil)))) (snb_cons (sns_if (snt_w (snw_or (snt_not (snt_val (snd_call c_is_net (hr.mono (by decide)) rfl (passes_call tk fun _ _ _ _ h => h) (snd_cons (snd_pv (pv 2)) snd_nil) rfl (lenA_cons lenA_nil)))) (snw_or1 (snt_cmp (op_neD hr.units) o2_ne (snd_call c_net_text (hr.mono (by decide)) rfl (passes_call tk fun _ _ _ _ h => h) (snd_cons (snd_pv (pv 2)) snd_nil) rfl (lenA_cons lenA_nil)) (snd_pv (pv 0)) rfl)))) (snb_one (sns_raise rfl tk C.g_InvalidText C.x_InvalidText rfl)) snb_nil) (snb_one (sns_ret (snd_take (pv 2))))))))
theorem nd_format_net : (["net"] : List Str).Nodup := by decide +kernel
theorem ok_format_net (C : Fx K mg) : Def P w K mg base "format_net" 5 1 r_format_net := by
  obtain ⟨fd, F⟩ := C.d_format_net
  have c_check_net := ok_check_net (P := P) (w := w) (base := base) C
  have c_net_text := ok_net_text (P := P) (w := w) (base := base) C
  refine def_ok' (N := ["net"]) (ps := ["net"]) C.g_format_net F ⟨rfl, rfl, rfl, nd_format_net, rfl, by decide +kernel, by decide +kernel⟩ rfl (fun _ _ _ _ _ _ us hl => match us, hl with | [_], _ => rfl) fun cdv A outer s H E hr => ?_
  have nd := nd_format_net
  have tk := tk_of (P := P) (w := w) (K := K) (mg := mg) (base := base) (N := ["net"]) (qual := "format_net") (scope := defScope (Hd.top 25)) (f := He.ga K "format_net") (cd := cdv) (A := A) (outer := outer) (s := s) (H := H) (E := E)
  exact (snb_cons (sns_expr (snd_call c_check_net (hr.mono (by decide)) rfl (passes_call tk fun _ _ _ _ h => h) (snd_cons (snd_pv (pv 0)) snd_nil) rfl (lenA_cons lenA_nil))) (snb_one (sns_ret (snd_call c_net_text (hr.mono (by decide)) rfl (passes_call tk fun _ _ _ _ h => h) (snd_cons (snd_pv (pv 0)) snd_nil) rfl (lenA_cons lenA_nil)))))
theorem nd__law_call : (["_law_how", "_law_arguments"] : List Str).Nodup := by decide +kernel
theorem ok__law_call (C : Fx K mg) : Def P w K mg base "_law_call" 6 2 r__law_call := by
  obtain ⟨fd, F⟩ := C.d__law_call
  have c_parse_net := ok_parse_net (P := P) (w := w) (base := base) C
  have c_format_net := ok_format_net (P := P) (w := w) (base := base) C
  refine def_ok' (N := ["_law_how", "_law_arguments"]) (ps := ["_law_how", "_law_arguments"]) C.g__law_call F ⟨rfl, rfl, rfl, nd__law_call, rfl, by decide +kernel, by decide +kernel⟩ rfl (fun _ _ _ _ _ _ us hl => match us, hl with | [_, _], _ => rfl) fun cdv A outer s H E hr => ?_
  have nd := nd__law_call
  have tk := tk_of (P := P) (w := w) (K := K) (mg := mg) (base := base) (N := ["_law_how", "_law_arguments"]) (qual := "_law_call") (scope := defScope (Hd.top 38)) (f := He.ga K "_law_call") (cd := cdv) (A := A) (outer := outer) (s := s) (H := H) (E := E)
  exact (snb_one (sns_ret (snd_ifE (snt_cmpV (op_eqD hr.units) ov_eq (pv 0) snd_int rfl) (snd_call c_parse_net (hr.mono (by decide)) rfl (passes_call tk fun _ _ _ _ h => h) (snd_cons (snd_pv (pv 1)) snd_nil) rfl (lenA_cons lenA_nil)) (snd_call c_format_net (hr.mono (by decide)) rfl (passes_call tk fun _ _ _ _ h => h) (snd_cons (snd_pv (pv 1)) snd_nil) rfl (lenA_cons lenA_nil)))))
theorem nd__law_outcome : (["_law_how", "_law_arguments", "_law_caught", "_law_result", "error"] : List Str).Nodup := by decide +kernel
theorem ok__law_outcome (C : Fx K mg) : Def P w K mg base "_law_outcome" 7 2 r__law_outcome := by
  obtain ⟨fd, F⟩ := C.d__law_outcome
  have c__law_call := ok__law_call (P := P) (w := w) (base := base) C
  have c__law_name := ok__law_name (P := P) (w := w) (base := base) C
  refine def_ok' (N := ["_law_how", "_law_arguments", "_law_caught", "_law_result", "error"]) (ps := ["_law_how", "_law_arguments"]) C.g__law_outcome F ⟨rfl, rfl, rfl, nd__law_outcome, rfl, by decide +kernel, by decide +kernel⟩ rfl (fun _ _ _ _ _ _ us hl => match us, hl with | [_, _], _ => rfl) fun cdv A outer s H E hr => ?_
  have nd := nd__law_outcome
  have tk := tk_of (P := P) (w := w) (K := K) (mg := mg) (base := base) (N := ["_law_how", "_law_arguments", "_law_caught", "_law_result", "error"]) (qual := "_law_outcome") (scope := defScope (Hd.top 33)) (f := He.ga K "_law_outcome") (cd := cdv) (A := A) (outer := outer) (s := s) (H := H) (E := E)
  exact (snb_cons (sns_set nd rfl (by first | exact Or.inl rfl | exact Or.inr rfl) snd_non) (snb_cons (sns_set nd rfl (by first | exact Or.inl rfl | exact Or.inr rfl) snd_non) (snb_cons (sns_catch (i := 4) (j := 2) C.xb rfl rfl rfl rfl nd rfl rfl rfl (by decide) rfl (by first | exact Or.inl rfl | exact Or.inr rfl) rfl C.g_RoadError tk (fun E' pn xe tk' hp => (snb_one (sns_set nd rfl (by first | exact Or.inl rfl | exact Or.inr rfl) (snd_call c__law_call (hr.mono (by decide)) rfl (passes_call tk' fun _ _ _ _ h => h) (snd_cons (snd_pv (pv 0)) (snd_cons (snd_pv (pv 1)) snd_nil)) rfl (lenA_cons (lenA_cons lenA_nil)))))) (fun a pn => pv 4) (fun a pn => rfl)) (snb_cons (sns_if (snt_cmp opr_is o2_is (snd_pv (pv 2)) snd_non rfl) (snb_one (sns_ret (snd_tup (snd_cons snd_str (snd_cons (snd_pv (pv 3)) snd_nil))))) snb_nil) (snb_one (sns_ret (snd_tup (snd_cons snd_str (snd_cons (snd_call c__law_name (hr.mono (by decide)) rfl (passes_call tk fun _ _ _ _ h => h) (snd_cons (snd_pv (pv 2)) snd_nil) rfl (lenA_cons lenA_nil)) snd_nil)))))))))
theorem nd_law : (["_law_script", "_law_town_here", "_law_net_here", "_law_text", "_law_i", "_law_j", "_law_room", "_law_k", "_law_at", "_law_sign", "_law_other", "_law_told", "_law_bads", "_law_bad", "_law_three"] : List Str).Nodup := by decide +kernel
theorem ok_law (C : Fx K mg) : ∃ fd, FunD K "law" "law" (defArgs (Hd.top 39)) (defBody (Hd.top 39)) (defScope (Hd.top 39)) [] [] (He.ga K "law") fd ∧ ∀ base, FnOk P w K mg base (L2.CX P w) 8 (He.ga K "law") fd ["_law_script"] (spD K r_law (["_law_script"] : List Str).length) := by
  obtain ⟨fd, F⟩ := C.d_law
  refine ⟨fd, F, fun base => ?_⟩
  have c__law_town := ok__law_town (P := P) (w := w) (base := base) C
  have c__law_net := ok__law_net (P := P) (w := w) (base := base) C
  have c_format_net := ok_format_net (P := P) (w := w) (base := base) C
  have c__law_outcome := ok__law_outcome (P := P) (w := w) (base := base) C
  have c__law_draw := ok__law_draw (P := P) (w := w) (base := base) C
  have c__law_pick := ok__law_pick (P := P) (w := w) (base := base) C
  have c_is_net := ok_is_net (P := P) (w := w) (base := base) C
  have c__law_raises := ok__law_raises (P := P) (w := w) (base := base) C
  have c_parse_net := ok_parse_net (P := P) (w := w) (base := base) C
  refine fn_ok' (N := ["_law_script", "_law_town_here", "_law_net_here", "_law_text", "_law_i", "_law_j", "_law_room", "_law_k", "_law_at", "_law_sign", "_law_other", "_law_told", "_law_bads", "_law_bad", "_law_three"]) F ⟨rfl, rfl, rfl, nd_law, rfl, by decide +kernel, by decide +kernel⟩ fun cdv A outer s H E hr => ?_
  have nd := nd_law
  have tk := tk_of (P := P) (w := w) (K := K) (mg := mg) (base := base) (N := ["_law_script", "_law_town_here", "_law_net_here", "_law_text", "_law_i", "_law_j", "_law_room", "_law_k", "_law_at", "_law_sign", "_law_other", "_law_told", "_law_bads", "_law_bad", "_law_three"]) (qual := "law") (scope := defScope (Hd.top 39)) (f := He.ga K "law") (cd := cdv) (A := A) (outer := outer) (s := s) (H := H) (E := E)
  exact (snb_cons (sns_setObj nd rfl (by first | exact Or.inl rfl | exact Or.inr rfl) (snd_call c__law_town (hr.mono (by decide)) rfl (passes_call tk fun _ _ _ _ h => h) (snd_cons (snd_pv (pv 0)) snd_nil) rfl (lenA_cons lenA_nil))) (snb_cons (sns_set nd rfl (by first | exact Or.inl rfl | exact Or.inr rfl) (snd_call c__law_net (hr.mono (by decide)) rfl (passes_call tk fun _ _ _ _ h => h) (snd_cons (snd_pv (pv 0)) (snd_cons (snd_pv (pv 1)) (snd_cons snd_int snd_nil))) rfl (lenA_cons (lenA_cons (lenA_cons lenA_nil))))) (snb_cons (sns_set nd rfl (by first | exact Or.inl rfl | exact Or.inr rfl) (snd_add (snd_callTy call_str_int (Op1.n o1_str) rfl C.n_str (by decide +kernel) (snd_cons (snd_ixV (hu_of hr) (pv 2) snd_int (fun _ _ => rfl)) snd_nil)) snd_str)) (snb_cons (sns_for (passes_of rfl) rfl (snd_iAny (snd_ixV (hu_of hr) (pv 2) snd_int (fun _ _ => rfl))) (sng_tp rfl (sngs_cons (sng_nm nd rfl (by first | exact Or.inl rfl | exact Or.inr rfl)) (sngs_cons (sng_nm nd rfl (by first | exact Or.inl rfl | exact Or.inr rfl)) (sngs_cons (sng_nm nd rfl (by first | exact Or.inl rfl | exact Or.inr rfl)) sngs_nil))) rfl) (snb_one (sns_set nd rfl (by first | exact Or.inl rfl | exact Or.inr rfl) (snd_add (snd_add (snd_add (snd_add (snd_add (snd_add (snd_pv (pv 3)) snd_str) (snd_callTy call_str_int (Op1.n o1_str) rfl C.n_str (by decide +kernel) (snd_cons (snd_pv (pv 4)) snd_nil))) snd_str) (snd_callTy call_str_int (Op1.n o1_str) rfl C.n_str (by decide +kernel) (snd_cons (snd_pv (pv 5)) snd_nil))) snd_str) (snd_callTy call_str_int (Op1.n o1_str) rfl C.n_str (by decide +kernel) (snd_cons (snd_pv (pv 6)) snd_nil)))))) (snb_cons (sns_if (snt_w (snw_or (snt_cmp (op_neD hr.units) o2_ne (snd_call c_format_net (hr.mono (by decide)) rfl (passes_call tk fun _ _ _ _ h => h) (snd_cons (snd_pv (pv 2)) snd_nil) rfl (lenA_cons lenA_nil)) (snd_pv (pv 3)) rfl) (snw_or1 (snt_cmp (op_neD hr.units) o2_ne (snd_call c__law_outcome (hr.mono (by decide)) rfl (passes_call tk fun _ _ _ _ h => h) (snd_cons snd_int (snd_cons (snd_pv (pv 3)) snd_nil)) rfl (lenA_cons (lenA_cons lenA_nil))) (snd_tup (snd_cons snd_str (snd_cons (snd_pv (pv 2)) snd_nil))) rfl)))) (snb_one (sns_ret snd_bl)) snb_nil) (snb_cons (sns_for (passes_of rfl) rfl (snd_iR1 rfl C.n_range snd_int) (sng_nm nd rfl (by first | exact Or.inl rfl | exact Or.inr rfl)) (snb_cons (sns_set nd rfl (by first | exact Or.inl rfl | exact Or.inr rfl) (snd_call c__law_draw (hr.mono (by decide)) rfl (passes_call tk fun _ _ _ _ h => h) (snd_cons (snd_pv (pv 0)) (snd_cons (snd_pv (pv 1)) (snd_cons (snd_add (snd_callBV cr_len ou_len rfl C.n_len (by decide +kernel) (pv 3)) snd_int) snd_nil))) rfl (lenA_cons (lenA_cons (lenA_cons lenA_nil))))) (snb_cons (sns_set nd rfl (by first | exact Or.inl rfl | exact Or.inr rfl) (snd_call c__law_pick (hr.mono (by decide)) rfl (passes_call tk fun _ _ _ _ h => h) (snd_cons (snd_pv (pv 0)) (snd_cons (snd_pv (pv 1)) (snd_cons (snd_add (snd_callTy (cr_list rfl) (OpU.n ou_list) rfl C.n_list (by decide +kernel) (snd_cons snd_str snd_nil)) (snd_lst (snd_cons snd_str (snd_cons snd_str (snd_cons snd_str (snd_cons snd_str (snd_cons snd_str (snd_cons snd_str snd_nil)))))))) snd_nil))) rfl (lenA_cons (lenA_cons (lenA_cons lenA_nil))))) (snb_cons (sns_set nd rfl (by first | exact Or.inl rfl | exact Or.inr rfl) (snd_add (snd_add (snd_slV (pv 3) snp_no (snp_at (snd_pv (pv 8)))) (snd_pv (pv 9))) (snd_slV (pv 3) (snp_at (snd_add (snd_pv (pv 8)) (snd_call c__law_draw (hr.mono (by decide)) rfl (passes_call tk fun _ _ _ _ h => h) (snd_cons (snd_pv (pv 0)) (snd_cons (snd_pv (pv 1)) (snd_cons snd_int snd_nil))) rfl (lenA_cons (lenA_cons (lenA_cons lenA_nil)))))) snp_no))) (snb_cons (sns_set nd rfl (by first | exact Or.inl rfl | exact Or.inr rfl) (snd_call c__law_outcome (hr.mono (by decide)) rfl (passes_call tk fun _ _ _ _ h => h) (snd_cons snd_int (snd_cons (snd_pv (pv 10)) snd_nil)) rfl (lenA_cons (lenA_cons lenA_nil)))) (snb_one (sns_if (snt_cmp (op_eqD hr.units) o2_eq (snd_ixV (hu_of hr) (pv 11) snd_int (fun _ _ => rfl)) snd_str rfl) (snb_one (sns_if (snt_w (snw_or (snt_cmp opr_isnot o2_isnot (snd_call c_is_net (hr.mono (by decide)) rfl (passes_call tk fun _ _ _ _ h => h) (snd_cons (snd_ixV (hu_of hr) (pv 11) snd_int (fun _ _ => rfl)) snd_nil) rfl (lenA_cons lenA_nil)) snd_bl rfl) (snw_or1 (snt_cmp (op_neD hr.units) o2_ne (snd_call c_format_net (hr.mono (by decide)) rfl (passes_call tk fun _ _ _ _ h => h) (snd_cons (snd_ixV (hu_of hr) (pv 11) snd_int (fun _ _ => rfl)) snd_nil) rfl (lenA_cons lenA_nil)) (snd_pv (pv 10)) rfl)))) (snb_one (sns_ret snd_bl)) snb_nil)) (snb_one (sns_if (snt_w (snw_or (snt_cmpV (op_neD hr.units) ov_ne (pv 11) (snd_call c__law_raises (hr.mono (by decide)) rfl (passes_call tk fun _ _ _ _ h => h) (snd_cons snd_str snd_nil) rfl (lenA_cons lenA_nil)) rfl) (snw_or1 (snt_cmpV (op_eqD hr.units) ov_eq (pv 10) (snd_pv (pv 3)) rfl)))) (snb_one (sns_ret snd_bl)) snb_nil))))))))) (snb_cons (sns_set nd rfl (by first | exact Or.inl rfl | exact Or.inr rfl) (snd_lst (snd_cons snd_non (snd_cons snd_int (snd_cons snd_bl (snd_cons snd_str (snd_cons snd_str (snd_cons snd_str (snd_cons snd_str (snd_cons snd_str (snd_cons snd_str (snd_cons snd_str (snd_cons snd_str (snd_cons snd_str (snd_cons snd_str snd_nil))))))))))))))) (snb_cons (sns_set nd rfl (by first | exact Or.inl rfl | exact Or.inr rfl) (snd_add (snd_pv (pv 12)) (snd_lst (snd_cons snd_str (snd_cons snd_str (snd_cons snd_str (snd_cons snd_str (snd_cons snd_str (snd_cons snd_str (snd_cons snd_str (snd_cons snd_str snd_nil))))))))))) (snb_cons (sns_set nd rfl (by first | exact Or.inl rfl | exact Or.inr rfl) (snd_add (snd_pv (pv 12)) (snd_lst (snd_cons snd_str (snd_cons snd_str (snd_cons snd_str (snd_cons snd_str (snd_cons snd_str (snd_cons snd_str (snd_cons snd_str snd_nil)))))))))) (snb_cons (sns_set nd rfl (by first | exact Or.inl rfl | exact Or.inr rfl) (snd_add (snd_pv (pv 12)) (snd_lst (snd_cons (snd_lst (snd_cons (snd_pv (pv 3)) snd_nil)) (snd_cons (snd_tup (snd_cons (snd_pv (pv 3)) snd_nil)) (snd_cons snd_emp (snd_cons (snd_pv (pv 2)) (snd_cons (snd_add (snd_pv (pv 3)) snd_str) (snd_cons (snd_add (snd_pv (pv 3)) snd_str) snd_nil))))))))) (snb_cons (sns_if (snt_cmp (op_neD hr.units) o2_ne (snd_comp (own := [("_law_bad", 13)]) rfl nd (snd_iAny (snd_pv (pv 12))) (blkOk_by (by kernel_rfl)) (by decide) (fun s H C' cl fp => (sng_nm nd rfl (by first | exact Or.inl rfl | exact Or.inr rfl))) (fun s H C' cl fp => (snts_one (snt_cmp (op_neD hr.units) o2_ne (snd_call c__law_outcome (hr.mono (by decide)) rfl passL (snd_cons snd_int (snd_cons (snd_pv (pv 13)) snd_nil)) rfl (lenA_cons (lenA_cons lenA_nil))) (snd_call c__law_raises (hr.mono (by decide)) rfl passL (snd_cons snd_str snd_nil) rfl (lenA_cons lenA_nil)) rfl))) (fun s H C' cl fp => (snd_pv (pv 13)))) (snd_lst snd_nil) rfl) (snb_one (sns_ret snd_bl)) snb_nil) (snb_cons (sns_for (passes_of rfl) rfl (snd_iAny (snd_tup (snd_cons snd_non (snd_cons (snd_tup snd_nil) (snd_cons (snd_ixV (hu_of hr) (pv 2) snd_int (fun _ _ => rfl)) (snd_cons (snd_pv (pv 3)) (snd_cons (snd_callTyV (cr_list rfl) ou_list rfl C.n_list (by decide +kernel) (pv 2)) (snd_cons (snd_tup (snd_cons snd_int (snd_cons (snd_tup snd_nil) snd_nil))) snd_nil)))))))) (sng_nm nd rfl (by first | exact Or.inl rfl | exact Or.inr rfl)) (snb_one (sns_if (snt_cmp (op_neD hr.units) o2_ne (snd_call c__law_outcome (hr.mono (by decide)) rfl (passes_call tk fun _ _ _ _ h => h) (snd_cons snd_int (snd_cons (snd_pv (pv 13)) snd_nil)) rfl (lenA_cons (lenA_cons lenA_nil))) (snd_call c__law_raises (hr.mono (by decide)) rfl (passes_call tk fun _ _ _ _ h => h) (snd_cons snd_str snd_nil) rfl (lenA_cons lenA_nil)) rfl) (snb_one (sns_ret snd_bl)) snb_nil))) (snb_cons (sns_set nd rfl (by first | exact Or.inl rfl | exact Or.inr rfl) (snd_tup (snd_cons snd_int (snd_cons (snd_tup (snd_cons (snd_tup (snd_cons snd_int (snd_cons snd_int (snd_cons snd_int snd_nil)))) (snd_cons (snd_tup (snd_cons snd_int (snd_cons snd_int (snd_cons snd_int snd_nil)))) snd_nil))) snd_nil)))) (snb_one (sns_ret (snd_and (snd_cmp (op_eqD hr.units) o2_eq (snd_call c_parse_net (hr.mono (by decide)) rfl (passes_call tk fun _ _ _ _ h => h) (snd_cons snd_str snd_nil) rfl (lenA_cons lenA_nil)) (snd_tup (snd_cons snd_int (snd_cons (snd_tup (snd_cons (snd_tup (snd_cons snd_int (snd_cons snd_int (snd_cons snd_int snd_nil)))) snd_nil)) snd_nil))) rfl) (snd_one (snd_cmp (op_eqD hr.units) o2_eq (snd_call c_parse_net (hr.mono (by decide)) rfl (passes_call tk fun _ _ _ _ h => h) (snd_cons snd_str snd_nil) rfl (lenA_cons lenA_nil)) (snd_pv (pv 14)) rfl))))))))))))))))))
end
end T82
/-! Plain part 2: == of data. -/
namespace DL
open PySem
variable {X : Str → List MO → Prop}
def eqvs (as bs : List D) : Bool := PyData.eqvAll (toPs as) (toPs bs)
theorem eqv_ii (i j : Int) : eqv (.int i) (.int j) = decide (i = j) := by
  simp only [eqv, toP, PyData.eqv]
  rw [Bool.eq_iff_iff]; simp
theorem eqv_ss (i j : Str) : eqv (.str i) (.str j) = decide (i = j) := by
  simp only [eqv, toP, PyData.eqv]
  rw [Bool.eq_iff_iff]; simp
theorem eqv_bb (i j : Bool) : eqv (.bl i) (.bl j) = (i == j) := by simp only [eqv, toP, PyData.eqv]
theorem eqv_nn : eqv .non .non = true := by simp only [eqv, toP, PyData.eqv]
theorem eqv_tt (as bs : List D) : eqv (.tup as) (.tup bs) = eqvs as bs := by simp only [eqv, toP, PyData.eqv, eqvs]
theorem eqv_ll (as bs : List D) : eqv (.lst as) (.lst bs) = eqvs as bs := by simp only [eqv, toP, PyData.eqv, eqvs]
theorem eqvs_nil : eqvs [] [] = true := by simp only [eqvs, toPs, PyData.eqvAll]
theorem eqvs_nc (b : D) (bs : List D) : eqvs [] (b :: bs) = false := by simp only [eqvs, toPs, PyData.eqvAll]
theorem eqvs_cn (b : D) (bs : List D) : eqvs (b :: bs) [] = false := by simp only [eqvs, toPs, PyData.eqvAll]
theorem eqvs_cc (a b : D) (as bs : List D) : eqvs (a :: as) (b :: bs) = (eqv a b && eqvs as bs) := by simp only [eqvs, toPs, PyData.eqvAll, eqv]
theorem eqv_si (x : Str) (i : Int) : eqv (.str x) (.int i) = false := by simp only [eqv, toP, PyData.eqv]
theorem eqv_is (x : Str) (i : Int) : eqv (.int i) (.str x) = false := by simp only [eqv, toP, PyData.eqv]
theorem eqv_sl (ns : List Int) (bs : List D) : eqv (.scr ns) (.lst bs) = PyData.eqvAll (ns.map .int) (toPs bs) := by simp only [eqv, toP, PyData.eqv]
theorem eqv_scr_nil (ns : List Int) : eqv (.scr ns) (.lst []) = ns.isEmpty := by
  rw [eqv_sl]
  cases ns <;> simp [toPs, PyData.eqvAll]
theorem atI_nat {α : Type} (xs : List α) (i : Nat) : L2.atI xs (i : Int) = xs[i]? := by
  unfold L2.atI L2.ixN
  rw [if_pos (by omega)]
  by_cases h : (i : Int) < xs.length
  · rw [if_pos h]; rfl
  · rw [if_neg h, List.getElem?_eq_none (by omega)]; rfl
/-! ### lists of ints -/
theorem lvls_ints : ∀ ns : List Int, lvls (ns.map D.int) = 0
  | [] => rfl
  | n :: r => by simp [lvls, lvl, lvls_ints r]
theorem anyEq_ints (x : Int) (ns : List Int) : anyEq (.int x) (ns.map D.int) = decide (x ∈ ns) := by
  unfold anyEq
  rw [List.any_map]
  induction ns with
  | nil => rfl
  | cons n r ih =>
    rw [List.any_cons, ih]
    show (eqv (.int n) (.int x) || _) = _
    rw [eqv_ii, Bool.eq_iff_iff]
    simp
    constructor
    · rintro (h | h)
      · exact .inl h.symm
      · exact .inr h
    · rintro (h | h)
      · exact .inl h.symm
      · exact .inr h
theorem oIn_ints (neg : Bool) (x : Int) (ns : List Int) : oIn neg (.int x) (.lst (ns.map D.int)) = some (.val (.bl (if neg then !decide (x ∈ ns) else decide (x ∈ ns)))) := by
  show inSeq neg (.int x) (ns.map D.int) = _
  unfold inSeq
  rw [if_pos ⟨by show (0 : Nat) ≤ 60; omega, by rw [lvls_ints]; omega⟩, anyEq_ints]
/-! ### changes -/
section
variable {α : Type} {a b c : DE} {x y : DS} {t u : DT} {da r : DA} {s : Sx} {ρ : List (Option SV)} {M : List MO} {d : D} {i j k n : Nat} {Q : SV → Sx → Prop} {QF : Fl → Sx → Prop} {f : Mf} {v : SV}
theorem w_mutO {ds0 : List D} (e0 : s.ρ[j]? = some (some (.own ds0))) (h : Ww X (da s) fun xs s1 => ∃ ds, s1.ρ[j]? = some (some (.own ds)) ∧ ∃ p, f ds xs = some p ∧ Q (.val p.2) ⟨s1.ρ.set j (some (.own p.1)), s1.M⟩) : Ww X (dMut f j da s) Q := by
  have hl : isLst s j = true := by unfold isLst; rw [e0]
  unfold dMut
  rw [if_pos hl]
  refine Ww.bind (h.imp fun xs s1 q => ?_)
  obtain ⟨ds, e1, p, e2, q⟩ := q
  have : mutIx s1 j f xs = .ok (.val p.2) ⟨s1.ρ.set j (some (.own p.1)), s1.M⟩ := by
    unfold mutIx
    rw [e1]
    dsimp only
    rw [e2]
  rw [this]; exact ⟨q⟩
theorem w_setIxO {ds : List D} (h : Ww X (a s) fun v s1 => has s1 j = true ∧ Ww X (b s1) fun k s2 => ∃ ds, s2.ρ[j]? = some (some (.own ds)) ∧ ∃ i, frz k = .int i ∧ ∃ m, L2.ixN ds.length i = some m ∧ QF .nx ⟨s2.ρ.set j (some (.own (ds.set m (frz v)))), s2.M⟩) : Ww X (dSetIx j a b s) QF := by
  refine Ww.bind (h.imp fun v s1 q => ?_)
  rw [if_pos q.1]
  refine Ww.bind (q.2.imp fun k s2 q => ?_)
  obtain ⟨ds, e1, i, e2, m, e3, q⟩ := q
  have : stIx s2 j (frz k) (frz v) = .ok .nx ⟨s2.ρ.set j (some (.own (ds.set m (frz v)))), s2.M⟩ := by
    unfold stIx
    rw [e1, e2]
    dsimp only
    rw [e3]
  rw [this]; exact ⟨q⟩
theorem w_setIxD (h : Ww X (a s) fun v s1 => has s1 j = true ∧ Ww X (b s1) fun k s2 => ∃ ks vs, s2.ρ[j]? = some (some (.ownD ks vs)) ∧ ∃ kk, frz k = .tup kk ∧ ∃ q, allInts kk = some q ∧ ks.length ≤ lim ∧ QF .nx ⟨s2.ρ.set j (some (.ownD (kPut ks vs q (frz v)).1 (kPut ks vs q (frz v)).2)), s2.M⟩) : Ww X (dSetIx j a b s) QF := by
  refine Ww.bind (h.imp fun v s1 q => ?_)
  rw [if_pos q.1]
  refine Ww.bind (q.2.imp fun k s2 q => ?_)
  obtain ⟨ks, vs, e1, kk, e2, p, e3, e4, q⟩ := q
  have : stIx s2 j (frz k) (frz v) = .ok .nx ⟨s2.ρ.set j (some (.ownD (kPut ks vs p (frz v)).1 (kPut ks vs p (frz v)).2)), s2.M⟩ := by
    unfold stIx
    rw [e1, e2]
    dsimp only
    rw [e3]
    dsimp only
    rw [if_pos e4]
  rw [this]; exact ⟨q⟩
theorem w_setIxM (h : Ww X (a s) fun v s1 => has s1 j = true ∧ Ww X (b s1) fun k s2 => ∃ n, s2.ρ[j]? = some (some (.val (.obj n))) ∧ ∃ ds, s2.M[n]? = some (.lst ds) ∧ ∃ i, frz k = .int i ∧ ∃ m, L2.ixN ds.length i = some m ∧ QF .nx ⟨s2.ρ, s2.M.set n (.lst (ds.set m (frz v)))⟩) : Ww X (dSetIx j a b s) QF := by
  refine Ww.bind (h.imp fun v s1 q => ?_)
  rw [if_pos q.1]
  refine Ww.bind (q.2.imp fun k s2 q => ?_)
  obtain ⟨n, e1, ds, e4, i, e2, m, e3, q⟩ := q
  have : stIx s2 j (frz k) (frz v) = .ok .nx ⟨s2.ρ, s2.M.set n (.lst (ds.set m (frz v)))⟩ := by
    unfold stIx
    rw [e1, e2]
    dsimp only
    rw [e4]
    dsimp only
    rw [e3]
  rw [this]; exact ⟨q⟩
end
/-! ### comprehensions over one name, that change nothing -/
theorem comp_nm {own : List Nat} {t : DT} {e : DE} {k : Nat} {ds : List D} {ρ : List (Option SV)} {M : List MO} {Q : List D → Sx → Prop} (b : D → Bool) (f : D → D)
    (ht : ∀ d ∈ ds, ∀ ρ', (∀ j, j ∉ own → ρ'[j]? = ρ[j]?) → ρ'.length = ρ.length → ρ'[k]? = some (some (.val d)) → Ww NoX (t ⟨ρ', M⟩) fun c s1 => c = b d ∧ s1 = ⟨ρ', M⟩)
    (he : ∀ d ∈ ds, b d = true → ∀ ρ', (∀ j, j ∉ own → ρ'[j]? = ρ[j]?) → ρ'.length = ρ.length → ρ'[k]? = some (some (.val d)) → Ww NoX (e ⟨ρ', M⟩) fun v s1 => frz v = f d ∧ s1 = ⟨ρ', M⟩)
    (hk : k < ρ.length) (hko : k ∈ own) (q : Q ((ds.filter b).map f) ⟨wipeD ρ own, M⟩) : Ww NoX (compD own (.nm k) t e ds [] ⟨ρ, M⟩) Q := by
  have wl : ∀ (vs : List Nat) (r : List (Option SV)) (j : Nat), j ∉ vs → (wipeD r vs)[j]? = r[j]? := by
    intro vs
    induction vs with
    | nil => intro r j _; rfl
    | cons v vs ih =>
      intro r j hj
      rw [List.mem_cons, not_or] at hj
      show ((wipeD r vs).set v none)[j]? = _
      rw [List.getElem?_set_ne (Ne.symm hj.1), ih r j hj.2]
  have wi : ∀ (vs : List Nat) (r r' : List (Option SV)), r.length = r'.length → (∀ j, j ∉ vs → r[j]? = r'[j]?) → wipeD r vs = wipeD r' vs := by
    intro vs r r' hl h
    apply List.ext_getElem?
    intro j
    by_cases hj : j ∈ vs
    · have wn : ∀ (vs : List Nat) (r : List (Option SV)), j ∈ vs → (wipeD r vs)[j]? = if j < r.length then some none else none := by
        intro vs
        induction vs with
        | nil => intro r h; cases h
        | cons v vs ih =>
          intro r h
          show ((wipeD r vs).set v none)[j]? = _
          by_cases q : v = j
          · subst q
            rw [List.getElem?_set, wipeD_length]
            simp
          · rw [List.getElem?_set_ne q]
            exact ih r ((List.mem_cons.mp h).resolve_left (fun z => q z.symm))
      rw [wn vs r hj, wn vs r' hj, hl]
    · rw [wl vs r j hj, wl vs r' j hj, h j hj]
  refine w_compI (fun l acc s => s.M = M ∧ s.ρ.length = ρ.length ∧ (∀ j, j ∉ own → s.ρ[j]? = ρ[j]?) ∧ (∃ pre, ds = pre ++ l ∧ acc = (pre.filter b).map f)) ⟨rfl, rfl, fun _ _ => rfl, [], rfl, rfl⟩ (fun d l acc s hI => ?_) (fun acc s hI => ?_)
  · obtain ⟨h1, h2, h3, pre, h4, h5⟩ := hI
    have hd : d ∈ ds := by rw [h4]; simp
    have hlen : ((wipeD s.ρ own).set k (some (.val d))).length = ρ.length := by rw [List.length_set, wipeD_length, h2]
    have hag : ∀ j, j ∉ own → ((wipeD s.ρ own).set k (some (.val d)))[j]? = ρ[j]? := fun j hj => by
      have hkj : k ≠ j := fun z => by subst z; exact hj hko
      rw [List.getElem?_set_ne hkj, wl own s.ρ j hj, h3 j hj]
    have hat : ((wipeD s.ρ own).set k (some (.val d)))[k]? = some (some (.val d)) := by
      rw [List.getElem?_set_self]; rw [wipeD_length, h2]; exact hk
    refine ⟨_, rfl, ?_⟩
    rw [h1]
    refine (ht d hd _ hag hlen hat).imp fun c s1 hc => ?_
    obtain ⟨rfl, rfl⟩ := hc
    refine ⟨fun hb => (he d hd hb _ hag hlen hat).imp fun v s2 hv => ?_, fun hb => ⟨rfl, hlen, hag, pre ++ [d], by rw [h4]; simp, ?_⟩⟩
    · obtain ⟨hv, rfl⟩ := hv
      exact ⟨rfl, hlen, hag, pre ++ [d], by rw [h4]; simp, by rw [h5, List.filter_append, List.map_append, hv]; simp [hb]⟩
    · rw [h5, List.filter_append, List.map_append]; simp [hb]
  · obtain ⟨h1, h2, h3, pre, h4, h5⟩ := hI
    have e : wipeD s.ρ own = wipeD ρ own := wi own _ _ h2 h3
    rw [h1, e, h5]
    have : ds = pre := by rw [h4]; simp
    rw [← this]; exact q
/-! ### loops by place -/
theorem w_forK {x : DS} {tg : Tg} {ds : List D} {s : Sx} {QF : Fl → Sx → Prop} (I : Nat → Sx → Prop) (hI : I 0 s) (step : ∀ k d s, ds[k]? = some d → I k s → ∃ ρ', tgSet tg d s.ρ = some ρ' ∧ Ww X (x ⟨ρ', s.M⟩) fun f s1 => match f with
    | .nx => I (k + 1) s1
    | .ct => I (k + 1) s1
    | .bk => QF .nx s1
    | .rt v => QF (.rt v) s1) (fin : ∀ s, I ds.length s → QF .nx s) : Ww X (forD tg x ds s) QF := by
  refine w_forI (fun l s => ∃ k, l = ds.drop k ∧ k ≤ ds.length ∧ I k s) ⟨0, by simp, Nat.zero_le _, hI⟩ (fun d l s h => ?_) (fun s h => ?_)
  · obtain ⟨k, e, hk, hi⟩ := h
    have hk2 : k < ds.length := by
      rcases Nat.lt_or_ge k ds.length with h | h
      · exact h
      · rw [List.drop_eq_nil_of_le h] at e; cases e
    rw [List.drop_eq_getElem_cons hk2] at e
    injection e with e1 e2
    obtain ⟨ρ', h1, h2⟩ := step k d s (by rw [e1]; exact List.getElem?_eq_getElem hk2) hi
    refine ⟨ρ', h1, h2.imp fun f s1 q => ?_⟩
    cases f with
    | nx => exact ⟨k + 1, e2, hk2, q⟩
    | ct => exact ⟨k + 1, e2, hk2, q⟩
    | bk => exact q
    | rt v => exact q
  · obtain ⟨k, e, hk, hi⟩ := h
    have hk2 : k = ds.length := by
      have := congrArg List.length e
      rw [List.length_drop] at this
      have e3 : ([] : List D).length = 0 := rfl
      omega
    subst hk2
    exact fin s hi
theorem rngD_at {lo : Int} {n k : Nat} {d : D} (h : (rngD lo n)[k]? = some d) : k < n ∧ d = .int (lo + k) := by
  unfold rngD at h
  rw [List.getElem?_map] at h
  obtain ⟨z, e1, e2⟩ := Option.map_eq_some_iff.mp h
  obtain ⟨h1, h2⟩ := List.getElem?_eq_some_iff.mp e1
  rw [List.getElem_range] at h2
  exact ⟨by simpa using h1, by rw [← e2, ← h2]⟩
theorem rngD_len {lo : Int} {n : Nat} : (rngD lo n).length = n := by simp [rngD]
theorem map_at {α : Type} {f : α → D} {l : List α} {k : Nat} {d : D} (h : (l.map f)[k]? = some d) : ∃ a, l[k]? = some a ∧ d = f a := by
  rw [List.getElem?_map] at h
  obtain ⟨a, e1, e2⟩ := Option.map_eq_some_iff.mp h
  exact ⟨a, e1, e2.symm⟩
theorem take_at {α : Type} {l : List α} {k : Nat} {a : α} (h : l[k]? = some a) : l.take (k + 1) = l.take k ++ [a] := by
  rw [List.take_add_one, h]; rfl
theorem w_cc {own : List Nat} {tg : Tg} {t : DT} {a : DE} {d : D} {ds acc : List D} {s : Sx} {Q : List D → Sx → Prop} (h : ∃ ρ', tgSet tg d (wipeD s.ρ own) = some ρ' ∧ Ww NoX (t ⟨ρ', s.M⟩) fun c s1 => (c = true → Ww NoX (a s1) fun v s2 => Ww NoX (compD own tg t a ds (acc ++ [frz v]) s2) Q) ∧ (c = false → Ww NoX (compD own tg t a ds acc s1) Q)) :
    Ww NoX (compD own tg t a (d :: ds) acc s) Q := by
  obtain ⟨ρ', e, q⟩ := h
  unfold compD
  rw [e]
  refine Ww.bind (q.nox.imp fun c s1 q => ?_)
  cases c with
  | true => exact Ww.bind ((q.1 rfl).nox.imp fun v s2 q => q)
  | false => exact q.2 rfl
theorem w_cn {own : List Nat} {tg : Tg} {t : DT} {a : DE} {acc : List D} {s : Sx} {Q : List D → Sx → Prop} (h : Q acc ⟨wipeD s.ρ own, s.M⟩) : Ww NoX (compD own tg t a [] acc s) Q := ⟨h⟩
theorem fExt_ok {ds zs : List D} (h : ds.length + zs.length ≤ lim) : fExtend ds [.lst zs] = some (ds ++ zs, .non) := if_pos h
theorem lim_ge {n : Nat} (h : n ≤ 1000) : n ≤ lim := Nat.le_trans h (by decide)
theorem oIx_at {ds : List D} {i : Int} {k : Nat} {d : D} (hi : i = k) (h : ds[k]? = some d) : oIx (.tup ds) (.int i) = some (.val d) := by
  show (L2.atI ds i).map SV.val = _
  rw [hi, atI_nat, h]; rfl
theorem oIx_atL {ds : List D} {i : Int} {k : Nat} {d : D} (hi : i = k) (h : ds[k]? = some d) : oIx (.lst ds) (.int i) = some (.val d) := by
  show (L2.atI ds i).map SV.val = _
  rw [hi, atI_nat, h]; rfl
theorem allBls_map {α : Type} (f : α → Bool) : ∀ l : List α, allBls (l.map fun a => D.bl (f a)) = some (l.map f)
  | [] => rfl
  | b :: bs => by simp [allBls, allBls_map f bs]
theorem oAll_map {α : Type} (f : α → Bool) (l : List α) : oAll (.lst (l.map fun a => D.bl (f a))) = some (.val (.bl (l.all f))) := by
  show (allBls _).map _ = _
  rw [allBls_map]
  show some (SV.val (.bl ((l.map f).all id))) = _
  rw [List.all_map]; rfl
theorem len3 {α : Type} {l : List α} (h : l.length = 3) : ∃ a b c, l = [a, b, c] := by
  match l, h with
  | [a, b, c], _ => exact ⟨a, b, c, rfl⟩
theorem wipe_ne : ∀ (vs : List Nat) (r : List (Option SV)) (j : Nat), j ∉ vs → (wipeD r vs)[j]? = r[j]?
  | [], _, _, _ => rfl
  | v :: vs, r, j, hj => by
    rw [List.mem_cons, not_or] at hj
    show ((wipeD r vs).set v none)[j]? = _
    rw [List.getElem?_set_ne (Ne.symm hj.1), wipe_ne vs r j hj.2]
theorem wipe_at {j : Nat} : ∀ (vs : List Nat) (r : List (Option SV)), j ∈ vs → (wipeD r vs)[j]? = if j < r.length then some none else none
  | v :: vs, r, h => by
    show ((wipeD r vs).set v none)[j]? = _
    by_cases q : v = j
    · subst q
      rw [List.getElem?_set, wipeD_length]
      simp
    · rw [List.getElem?_set_ne q]
      exact wipe_at vs r ((List.mem_cons.mp h).resolve_left (fun z => q z.symm))
theorem wipe_same {vs : List Nat} {r r' : List (Option SV)} (hl : r.length = r'.length) (h : ∀ j, j ∉ vs → r[j]? = r'[j]?) : wipeD r vs = wipeD r' vs := by
  apply List.ext_getElem?
  intro j
  by_cases hj : j ∈ vs
  · rw [wipe_at vs r hj, wipe_at vs r' hj, hl]
  · rw [wipe_ne vs r j hj, wipe_ne vs r' j hj, h j hj]
/-- a comprehension that changes nothing, by what its target makes of an item -/
theorem comp_g {own : List Nat} {tg : Tg} {t : DT} {e : DE} {ds : List D} {ρ : List (Option SV)} {M : List MO} {Q : List D → Sx → Prop} (At : D → List (Option SV) → Prop) (b : D → Bool) (f : D → D)
    (hset : ∀ d ∈ ds, ∀ r : List (Option SV), r.length = ρ.length → ∃ ρ', tgSet tg d r = some ρ' ∧ ρ'.length = r.length ∧ (∀ j, j ∉ own → ρ'[j]? = r[j]?) ∧ At d ρ')
    (ht : ∀ d ∈ ds, ∀ ρ', (∀ j, j ∉ own → ρ'[j]? = ρ[j]?) → ρ'.length = ρ.length → At d ρ' → Ww NoX (t ⟨ρ', M⟩) fun c s1 => c = b d ∧ s1 = ⟨ρ', M⟩)
    (he : ∀ d ∈ ds, b d = true → ∀ ρ', (∀ j, j ∉ own → ρ'[j]? = ρ[j]?) → ρ'.length = ρ.length → At d ρ' → Ww NoX (e ⟨ρ', M⟩) fun v s1 => frz v = f d ∧ s1 = ⟨ρ', M⟩)
    (q : Q ((ds.filter b).map f) ⟨wipeD ρ own, M⟩) : Ww NoX (compD own tg t e ds [] ⟨ρ, M⟩) Q := by
  refine w_compI (fun l acc s => s.M = M ∧ s.ρ.length = ρ.length ∧ (∀ j, j ∉ own → s.ρ[j]? = ρ[j]?) ∧ (∃ pre, ds = pre ++ l ∧ acc = (pre.filter b).map f)) ⟨rfl, rfl, fun _ _ => rfl, [], rfl, rfl⟩ (fun d l acc s hI => ?_) (fun acc s hI => ?_)
  · obtain ⟨h1, h2, h3, pre, h4, h5⟩ := hI
    have hd : d ∈ ds := by rw [h4]; simp
    obtain ⟨ρ', g1, g2, g3, g4⟩ := hset d hd (wipeD s.ρ own) (by rw [wipeD_length, h2])
    have hlen : ρ'.length = ρ.length := by rw [g2, wipeD_length, h2]
    have hag : ∀ j, j ∉ own → ρ'[j]? = ρ[j]? := fun j hj => by rw [g3 j hj, wipe_ne own s.ρ j hj, h3 j hj]
    refine ⟨_, g1, ?_⟩
    rw [h1]
    refine (ht d hd _ hag hlen g4).imp fun c s1 hc => ?_
    obtain ⟨rfl, rfl⟩ := hc
    refine ⟨fun hb => (he d hd hb _ hag hlen g4).imp fun v s2 hv => ?_, fun hb => ⟨rfl, hlen, hag, pre ++ [d], by rw [h4]; simp, ?_⟩⟩
    · obtain ⟨hv, rfl⟩ := hv
      exact ⟨rfl, hlen, hag, pre ++ [d], by rw [h4]; simp, by rw [h5, List.filter_append, List.map_append, hv]; simp [hb]⟩
    · rw [h5, List.filter_append, List.map_append]; simp [hb]
  · obtain ⟨h1, h2, h3, pre, h4, h5⟩ := hI
    rw [h1, wipe_same h2 h3, h5]
    have : ds = pre := by rw [h4]; simp
    rw [← this]; exact q
def at3 (i j k : Nat) (d : D) (ρ : List (Option SV)) : Prop := ∃ x y z, d = .tup [x, y, z] ∧ ρ[i]? = some (some (.val x)) ∧ ρ[j]? = some (some (.val y)) ∧ ρ[k]? = some (some (.val z))
theorem set3 {i j k : Nat} {own : List Nat} {d : D} {r : List (Option SV)} (hd : ∃ x y z, d = .tup [x, y, z]) (hi : i < r.length) (hj : j < r.length) (hk : k < r.length) (hij : i ≠ j) (hik : i ≠ k) (hjk : j ≠ k) (oi : i ∈ own) (oj : j ∈ own) (ok : k ∈ own) :
    ∃ ρ', tgSet (.tp [.nm i, .nm j, .nm k]) d r = some ρ' ∧ ρ'.length = r.length ∧ (∀ m, m ∉ own → ρ'[m]? = r[m]?) ∧ at3 i j k d ρ' := by
  obtain ⟨x, y, z, rfl⟩ := hd
  refine ⟨_, rfl, by simp, fun m hm => ?_, x, y, z, rfl, ?_, ?_, ?_⟩
  · have h1 : k ≠ m := fun e => hm (e ▸ ok)
    have h2 : j ≠ m := fun e => hm (e ▸ oj)
    have h3 : i ≠ m := fun e => hm (e ▸ oi)
    rw [List.getElem?_set_ne h1, List.getElem?_set_ne h2, List.getElem?_set_ne h3]
  · rw [List.getElem?_set_ne (Ne.symm hik), List.getElem?_set_ne (Ne.symm hij), List.getElem?_set_self hi]
  · rw [List.getElem?_set_ne (Ne.symm hjk), List.getElem?_set_self (by simpa using hj)]
  · rw [List.getElem?_set_self (by simpa using hk)]
def at2 (i j : Nat) (d : D) (ρ : List (Option SV)) : Prop := ∃ x y, d = .tup [x, y] ∧ ρ[i]? = some (some (.val x)) ∧ ρ[j]? = some (some (.val y))
theorem set2 {i j : Nat} {own : List Nat} {d : D} {r : List (Option SV)} (hd : ∃ x y, d = .tup [x, y]) (hi : i < r.length) (hj : j < r.length) (hij : i ≠ j) (oi : i ∈ own) (oj : j ∈ own) :
    ∃ ρ', tgSet (.tp [.nm i, .nm j]) d r = some ρ' ∧ ρ'.length = r.length ∧ (∀ m, m ∉ own → ρ'[m]? = r[m]?) ∧ at2 i j d ρ' := by
  obtain ⟨x, y, rfl⟩ := hd
  refine ⟨_, rfl, by simp, fun m hm => ?_, x, y, rfl, ?_, ?_⟩
  · have h2 : j ≠ m := fun e => hm (e ▸ oj)
    have h3 : i ≠ m := fun e => hm (e ▸ oi)
    rw [List.getElem?_set_ne h2, List.getElem?_set_ne h3]
  · rw [List.getElem?_set_ne (Ne.symm hij), List.getElem?_set_self hi]
  · rw [List.getElem?_set_self (by simpa using hj)]
theorem len4 {α : Type} {l : List α} (h : l.length = 4) : ∃ a b c d, l = [a, b, c, d] := by
  match l, h with
  | [a, b, c, d], _ => exact ⟨a, b, c, d, rfl⟩
theorem flt_true {α : Type} (l : List α) : l.filter (fun _ => true) = l := List.filter_eq_self.mpr fun _ _ => rfl
/-! ### exceptions -/
theorem w_raise {C : Str} {s : Sx} {QF : Fl → Sx → Prop} (h : X C s.M) : Ww X (dRaise C s) QF := ⟨h⟩
theorem Ww.exc {α : Type} {r : R α} {C : Str} {M : List MO} {Q : α → Sx → Prop} (e : r = .exc C M) (h : X C M) : Ww X r Q := by rw [e]; exact ⟨h⟩
/-- an equation, from what it ends in -/
theorem Ww.to_exc {α : Type} {r : R α} {C : Str} {M : List MO} (h : Ww (fun C' M' => C' = C ∧ M' = M) r fun _ _ => False) : r = .exc C M := by
  cases r with
  | ok a s => exact h.1.elim
  | exc C' M' => obtain ⟨⟨rfl, rfl⟩⟩ := h; rfl
  | bad => exact h.1.elim
/-- what ends well lets nothing out -/
theorem Ww.any {α : Type} {r : R α} {Q : α → Sx → Prop} (h : Ww NoX r Q) : Ww X r Q := by
  cases r with
  | ok a s => exact ⟨h.1⟩
  | exc C' M' => exact h.1.elim
  | bad => exact h.1.elim
theorem w_catch {len j : Nat} {x : DS} {s : Sx} {QF : Fl → Sx → Prop} (h : Ww (fun C M => C ∈ roadNames ∧ QF .nx ⟨(List.replicate len none).set j (some (.val (.exc C))), M⟩) (x s) QF) : Ww X (dCatch len j x s) QF := by
  unfold dCatch
  revert h
  cases x s with
  | ok f s1 => cases f <;> exact fun h => ⟨h.1⟩
  | exc C M => exact fun h => by dsimp only; rw [if_pos h.1.1]; exact ⟨h.1.2⟩
  | bad => exact fun h => h.1.elim
end DL
namespace T82
open PySem DL
def betw (v : D) (lo hi : Int) : Bool := match v with
  | .int i => decide (lo ≤ i) && decide (i ≤ hi)
  | _ => false
/-- plain data at the top -/
def top1 : D → Bool
  | .obj _ => false
  | .exc _ => false
  | .fn _ => false
  | _ => true
theorem is_between_ok {v : D} (hv : top1 v = true) (lo hi : Int) (M : List MO) : r_is_between [v, .int lo, .int hi] M = .ok (.val (.bl (betw v lo hi))) ⟨[], M⟩ := by
  refine Ww.to_eq (in_is_between ?_)
  unfold db_is_between
  cases v <;> first | (cases hv; done) | skip
  all_goals (repeat' (first | with_reducible apply w_seq | with_reducible apply w_ret | with_reducible apply w_ifS | with_reducible apply w_set | with_reducible apply w_C | with_reducible apply w_nil | with_reducible apply w_cons | with_reducible apply w_tup | with_reducible apply w_lst | with_reducible apply w_d2 | ((with_reducible apply w_var); rfl) | ((with_reducible apply w_varO); rfl) | with_reducible apply w_call | with_reducible apply w_test | with_reducible apply w_V1 | with_reducible apply w_V2 | with_reducible apply w_W2 | with_reducible apply w_chain | with_reducible apply w_tAnd | with_reducible apply w_tOr | with_reducible apply w_tNot | with_reducible apply w_tTrue | with_reducible apply w_and | with_reducible apply w_or | with_reducible apply w_not | with_reducible apply w_ifE | with_reducible apply w_isi | with_reducible apply w_dN | with_reducible apply w_d1 | ((with_reducible apply w_has); (apply x_has; rfl)) | ((with_reducible apply w_take); rfl) | ((with_reducible apply w_takeO); rfl) | with_reducible apply w_no | with_reducible apply w_at | with_reducible apply w_sl | with_reducible apply w_slV | with_reducible apply w_M1 | with_reducible apply w_fmt | with_reducible apply w_js0 | with_reducible apply w_js | with_reducible apply w_iAny | with_reducible apply w_iR1 | with_reducible apply w_iR2 | with_reducible apply w_for | with_reducible apply w_comp | with_reducible apply w_cc | with_reducible apply w_cn | with_reducible apply w_skip | with_reducible apply w_expr | with_reducible apply w_unp | with_reducible apply w_par2 | with_reducible apply w_par3 | with_reducible apply w_emp | with_reducible apply w_setObj | with_reducible apply w_raise | with_reducible apply w_catch | dsimp only [List.set_cons_zero, List.set_cons_succ, wipeD, frz_v, frz_o, frz_d] | ((with_reducible apply x_t); rfl) | ((with_reducible apply x_f); rfl) | ((with_reducible apply xi_int); rfl) | ((with_reducible apply xi_bool); rfl) | ((with_reducible apply xi_str); rfl) | ((with_reducible apply xi_tuple); rfl) | ((with_reducible apply xi_list); rfl) | ((with_reducible apply xi_dict); rfl) | ((with_reducible apply x_chain); rfl) | ((with_reducible apply x_bl); rfl) | ((with_reducible apply x_int); rfl) | ((with_reducible apply x_str); rfl) | ((with_reducible apply x_eq); rfl) | ((with_reducible apply x_intD); rfl) | ((with_reducible apply x_own); rfl) | ((with_reducible apply x_ow); rfl) | ((with_reducible apply x_owD); rfl) | ((with_reducible apply x_ob); rfl) | ((with_reducible apply x_mo); rfl) | ((with_reducible apply x_tp); rfl) | ((with_reducible apply x_intD2); rfl; rfl) | ((with_reducible apply x_le); exact Nat.le_of_ble_eq_true rfl) | ((with_reducible refine x_split ?_ ?_); rotate_left; intro _; rotate_right; intro _)))
  all_goals first | exact ⟨rfl, rfl⟩ | (refine ⟨?_, rfl⟩; simp_all [betw]; try omega)
theorem betw_int (i lo hi : Int) : betw (.int i) lo hi = (decide (lo ≤ i) && decide (i ≤ hi)) := rfl
def lineB (p : Int) : D → Bool
  | .tup [a, b, c] => betw a 0 (p - 1) && (match a with
    | .int i => betw b (i + 1) (p - 1) && betw c 1 100
    | _ => false)
  | _ => false
theorem lineB_int (p i : Int) (b c : D) : lineB p (.tup [.int i, b, c]) = (betw (.int i) 0 (p - 1) && (betw b (i + 1) (p - 1) && betw c 1 100)) := rfl
theorem is_line_ok {v : D} (p : Int) (hv : top1 v = true) (ht : ∀ ds, v = .tup ds → ds.all top1 = true) (M : List MO) : r_is_line [.int p, v] M = .ok (.val (.bl (lineB p v))) ⟨[], M⟩ := by
  refine Ww.to_eq (in_is_line ?_)
  unfold db_is_line
  cases v <;> first | (cases hv; done) | skip
  case tup ds =>
    have hd := ht ds rfl
    clear ht hv
    match ds, hd with
    | [], _ => repeat (first | with_reducible apply w_seq | with_reducible apply w_ret | with_reducible apply w_ifS | with_reducible apply w_set | with_reducible apply w_C | with_reducible apply w_nil | with_reducible apply w_cons | with_reducible apply w_tup | with_reducible apply w_lst | with_reducible apply w_d2 | ((with_reducible apply w_var); rfl) | ((with_reducible apply w_varO); rfl) | with_reducible apply w_call | with_reducible apply w_test | with_reducible apply w_V1 | with_reducible apply w_V2 | with_reducible apply w_W2 | with_reducible apply w_chain | with_reducible apply w_tAnd | with_reducible apply w_tOr | with_reducible apply w_tNot | with_reducible apply w_tTrue | with_reducible apply w_and | with_reducible apply w_or | with_reducible apply w_not | with_reducible apply w_ifE | with_reducible apply w_isi | with_reducible apply w_dN | with_reducible apply w_d1 | ((with_reducible apply w_has); (apply x_has; rfl)) | ((with_reducible apply w_take); rfl) | ((with_reducible apply w_takeO); rfl) | with_reducible apply w_no | with_reducible apply w_at | with_reducible apply w_sl | with_reducible apply w_slV | with_reducible apply w_M1 | with_reducible apply w_fmt | with_reducible apply w_js0 | with_reducible apply w_js | with_reducible apply w_iAny | with_reducible apply w_iR1 | with_reducible apply w_iR2 | with_reducible apply w_for | with_reducible apply w_comp | with_reducible apply w_cc | with_reducible apply w_cn | with_reducible apply w_skip | with_reducible apply w_expr | with_reducible apply w_unp | with_reducible apply w_par2 | with_reducible apply w_par3 | with_reducible apply w_emp | with_reducible apply w_setObj | with_reducible apply w_raise | with_reducible apply w_catch | dsimp only [List.set_cons_zero, List.set_cons_succ, wipeD, frz_v, frz_o, frz_d] | ((with_reducible apply x_t); rfl) | ((with_reducible apply x_f); rfl) | ((with_reducible apply xi_int); rfl) | ((with_reducible apply xi_bool); rfl) | ((with_reducible apply xi_str); rfl) | ((with_reducible apply xi_tuple); rfl) | ((with_reducible apply xi_list); rfl) | ((with_reducible apply xi_dict); rfl) | ((with_reducible apply x_chain); rfl) | ((with_reducible apply x_bl); rfl) | ((with_reducible apply x_int); rfl) | ((with_reducible apply x_str); rfl) | ((with_reducible apply x_eq); rfl) | ((with_reducible apply x_intD); rfl) | ((with_reducible apply x_own); rfl) | ((with_reducible apply x_ow); rfl) | ((with_reducible apply x_owD); rfl) | ((with_reducible apply x_ob); rfl) | ((with_reducible apply x_mo); rfl) | ((with_reducible apply x_tp); rfl) | ((with_reducible apply x_intD2); rfl; rfl) | ((with_reducible apply x_le); exact Nat.le_of_ble_eq_true rfl)); exact ⟨rfl, rfl⟩
    | [a], _ => repeat (first | with_reducible apply w_seq | with_reducible apply w_ret | with_reducible apply w_ifS | with_reducible apply w_set | with_reducible apply w_C | with_reducible apply w_nil | with_reducible apply w_cons | with_reducible apply w_tup | with_reducible apply w_lst | with_reducible apply w_d2 | ((with_reducible apply w_var); rfl) | ((with_reducible apply w_varO); rfl) | with_reducible apply w_call | with_reducible apply w_test | with_reducible apply w_V1 | with_reducible apply w_V2 | with_reducible apply w_W2 | with_reducible apply w_chain | with_reducible apply w_tAnd | with_reducible apply w_tOr | with_reducible apply w_tNot | with_reducible apply w_tTrue | with_reducible apply w_and | with_reducible apply w_or | with_reducible apply w_not | with_reducible apply w_ifE | with_reducible apply w_isi | with_reducible apply w_dN | with_reducible apply w_d1 | ((with_reducible apply w_has); (apply x_has; rfl)) | ((with_reducible apply w_take); rfl) | ((with_reducible apply w_takeO); rfl) | with_reducible apply w_no | with_reducible apply w_at | with_reducible apply w_sl | with_reducible apply w_slV | with_reducible apply w_M1 | with_reducible apply w_fmt | with_reducible apply w_js0 | with_reducible apply w_js | with_reducible apply w_iAny | with_reducible apply w_iR1 | with_reducible apply w_iR2 | with_reducible apply w_for | with_reducible apply w_comp | with_reducible apply w_cc | with_reducible apply w_cn | with_reducible apply w_skip | with_reducible apply w_expr | with_reducible apply w_unp | with_reducible apply w_par2 | with_reducible apply w_par3 | with_reducible apply w_emp | with_reducible apply w_setObj | with_reducible apply w_raise | with_reducible apply w_catch | dsimp only [List.set_cons_zero, List.set_cons_succ, wipeD, frz_v, frz_o, frz_d] | ((with_reducible apply x_t); rfl) | ((with_reducible apply x_f); rfl) | ((with_reducible apply xi_int); rfl) | ((with_reducible apply xi_bool); rfl) | ((with_reducible apply xi_str); rfl) | ((with_reducible apply xi_tuple); rfl) | ((with_reducible apply xi_list); rfl) | ((with_reducible apply xi_dict); rfl) | ((with_reducible apply x_chain); rfl) | ((with_reducible apply x_bl); rfl) | ((with_reducible apply x_int); rfl) | ((with_reducible apply x_str); rfl) | ((with_reducible apply x_eq); rfl) | ((with_reducible apply x_intD); rfl) | ((with_reducible apply x_own); rfl) | ((with_reducible apply x_ow); rfl) | ((with_reducible apply x_owD); rfl) | ((with_reducible apply x_ob); rfl) | ((with_reducible apply x_mo); rfl) | ((with_reducible apply x_tp); rfl) | ((with_reducible apply x_intD2); rfl; rfl) | ((with_reducible apply x_le); exact Nat.le_of_ble_eq_true rfl)); exact ⟨rfl, rfl⟩
    | [a, b], _ => repeat (first | with_reducible apply w_seq | with_reducible apply w_ret | with_reducible apply w_ifS | with_reducible apply w_set | with_reducible apply w_C | with_reducible apply w_nil | with_reducible apply w_cons | with_reducible apply w_tup | with_reducible apply w_lst | with_reducible apply w_d2 | ((with_reducible apply w_var); rfl) | ((with_reducible apply w_varO); rfl) | with_reducible apply w_call | with_reducible apply w_test | with_reducible apply w_V1 | with_reducible apply w_V2 | with_reducible apply w_W2 | with_reducible apply w_chain | with_reducible apply w_tAnd | with_reducible apply w_tOr | with_reducible apply w_tNot | with_reducible apply w_tTrue | with_reducible apply w_and | with_reducible apply w_or | with_reducible apply w_not | with_reducible apply w_ifE | with_reducible apply w_isi | with_reducible apply w_dN | with_reducible apply w_d1 | ((with_reducible apply w_has); (apply x_has; rfl)) | ((with_reducible apply w_take); rfl) | ((with_reducible apply w_takeO); rfl) | with_reducible apply w_no | with_reducible apply w_at | with_reducible apply w_sl | with_reducible apply w_slV | with_reducible apply w_M1 | with_reducible apply w_fmt | with_reducible apply w_js0 | with_reducible apply w_js | with_reducible apply w_iAny | with_reducible apply w_iR1 | with_reducible apply w_iR2 | with_reducible apply w_for | with_reducible apply w_comp | with_reducible apply w_cc | with_reducible apply w_cn | with_reducible apply w_skip | with_reducible apply w_expr | with_reducible apply w_unp | with_reducible apply w_par2 | with_reducible apply w_par3 | with_reducible apply w_emp | with_reducible apply w_setObj | with_reducible apply w_raise | with_reducible apply w_catch | dsimp only [List.set_cons_zero, List.set_cons_succ, wipeD, frz_v, frz_o, frz_d] | ((with_reducible apply x_t); rfl) | ((with_reducible apply x_f); rfl) | ((with_reducible apply xi_int); rfl) | ((with_reducible apply xi_bool); rfl) | ((with_reducible apply xi_str); rfl) | ((with_reducible apply xi_tuple); rfl) | ((with_reducible apply xi_list); rfl) | ((with_reducible apply xi_dict); rfl) | ((with_reducible apply x_chain); rfl) | ((with_reducible apply x_bl); rfl) | ((with_reducible apply x_int); rfl) | ((with_reducible apply x_str); rfl) | ((with_reducible apply x_eq); rfl) | ((with_reducible apply x_intD); rfl) | ((with_reducible apply x_own); rfl) | ((with_reducible apply x_ow); rfl) | ((with_reducible apply x_owD); rfl) | ((with_reducible apply x_ob); rfl) | ((with_reducible apply x_mo); rfl) | ((with_reducible apply x_tp); rfl) | ((with_reducible apply x_intD2); rfl; rfl) | ((with_reducible apply x_le); exact Nat.le_of_ble_eq_true rfl)); exact ⟨rfl, rfl⟩
    | [a, b, c], hd =>
      simp only [List.all_cons, List.all_nil, Bool.and_true, Bool.and_eq_true] at hd
      repeat (first | with_reducible apply w_seq | with_reducible apply w_ret | with_reducible apply w_ifS | with_reducible apply w_set | with_reducible apply w_C | with_reducible apply w_nil | with_reducible apply w_cons | with_reducible apply w_tup | with_reducible apply w_lst | with_reducible apply w_d2 | ((with_reducible apply w_var); rfl) | ((with_reducible apply w_varO); rfl) | with_reducible apply w_call | with_reducible apply w_test | with_reducible apply w_V1 | with_reducible apply w_V2 | with_reducible apply w_W2 | with_reducible apply w_chain | with_reducible apply w_tAnd | with_reducible apply w_tOr | with_reducible apply w_tNot | with_reducible apply w_tTrue | with_reducible apply w_and | with_reducible apply w_or | with_reducible apply w_not | with_reducible apply w_ifE | with_reducible apply w_isi | with_reducible apply w_dN | with_reducible apply w_d1 | ((with_reducible apply w_has); (apply x_has; rfl)) | ((with_reducible apply w_take); rfl) | ((with_reducible apply w_takeO); rfl) | with_reducible apply w_no | with_reducible apply w_at | with_reducible apply w_sl | with_reducible apply w_slV | with_reducible apply w_M1 | with_reducible apply w_fmt | with_reducible apply w_js0 | with_reducible apply w_js | with_reducible apply w_iAny | with_reducible apply w_iR1 | with_reducible apply w_iR2 | with_reducible apply w_for | with_reducible apply w_comp | with_reducible apply w_cc | with_reducible apply w_cn | with_reducible apply w_skip | with_reducible apply w_expr | with_reducible apply w_unp | with_reducible apply w_par2 | with_reducible apply w_par3 | with_reducible apply w_emp | with_reducible apply w_setObj | with_reducible apply w_raise | with_reducible apply w_catch | dsimp only [List.set_cons_zero, List.set_cons_succ, wipeD, frz_v, frz_o, frz_d] | ((with_reducible apply x_t); rfl) | ((with_reducible apply x_f); rfl) | ((with_reducible apply xi_int); rfl) | ((with_reducible apply xi_bool); rfl) | ((with_reducible apply xi_str); rfl) | ((with_reducible apply xi_tuple); rfl) | ((with_reducible apply xi_list); rfl) | ((with_reducible apply xi_dict); rfl) | ((with_reducible apply x_chain); rfl) | ((with_reducible apply x_bl); rfl) | ((with_reducible apply x_int); rfl) | ((with_reducible apply x_str); rfl) | ((with_reducible apply x_eq); rfl) | ((with_reducible apply x_intD); rfl) | ((with_reducible apply x_own); rfl) | ((with_reducible apply x_ow); rfl) | ((with_reducible apply x_owD); rfl) | ((with_reducible apply x_ob); rfl) | ((with_reducible apply x_mo); rfl) | ((with_reducible apply x_tp); rfl) | ((with_reducible apply x_intD2); rfl; rfl) | ((with_reducible apply x_le); exact Nat.le_of_ble_eq_true rfl))
      refine Ww.eq (is_between_ok hd.1 _ _ _) ?_
      repeat (first | with_reducible apply w_seq | with_reducible apply w_ret | with_reducible apply w_ifS | with_reducible apply w_set | with_reducible apply w_C | with_reducible apply w_nil | with_reducible apply w_cons | with_reducible apply w_tup | with_reducible apply w_lst | with_reducible apply w_d2 | ((with_reducible apply w_var); rfl) | ((with_reducible apply w_varO); rfl) | with_reducible apply w_call | with_reducible apply w_test | with_reducible apply w_V1 | with_reducible apply w_V2 | with_reducible apply w_W2 | with_reducible apply w_chain | with_reducible apply w_tAnd | with_reducible apply w_tOr | with_reducible apply w_tNot | with_reducible apply w_tTrue | with_reducible apply w_and | with_reducible apply w_or | with_reducible apply w_not | with_reducible apply w_ifE | with_reducible apply w_isi | with_reducible apply w_dN | with_reducible apply w_d1 | ((with_reducible apply w_has); (apply x_has; rfl)) | ((with_reducible apply w_take); rfl) | ((with_reducible apply w_takeO); rfl) | with_reducible apply w_no | with_reducible apply w_at | with_reducible apply w_sl | with_reducible apply w_slV | with_reducible apply w_M1 | with_reducible apply w_fmt | with_reducible apply w_js0 | with_reducible apply w_js | with_reducible apply w_iAny | with_reducible apply w_iR1 | with_reducible apply w_iR2 | with_reducible apply w_for | with_reducible apply w_comp | with_reducible apply w_cc | with_reducible apply w_cn | with_reducible apply w_skip | with_reducible apply w_expr | with_reducible apply w_unp | with_reducible apply w_par2 | with_reducible apply w_par3 | with_reducible apply w_emp | with_reducible apply w_setObj | with_reducible apply w_raise | with_reducible apply w_catch | dsimp only [List.set_cons_zero, List.set_cons_succ, wipeD, frz_v, frz_o, frz_d] | ((with_reducible apply x_t); rfl) | ((with_reducible apply x_f); rfl) | ((with_reducible apply xi_int); rfl) | ((with_reducible apply xi_bool); rfl) | ((with_reducible apply xi_str); rfl) | ((with_reducible apply xi_tuple); rfl) | ((with_reducible apply xi_list); rfl) | ((with_reducible apply xi_dict); rfl) | ((with_reducible apply x_chain); rfl) | ((with_reducible apply x_bl); rfl) | ((with_reducible apply x_int); rfl) | ((with_reducible apply x_str); rfl) | ((with_reducible apply x_eq); rfl) | ((with_reducible apply x_intD); rfl) | ((with_reducible apply x_own); rfl) | ((with_reducible apply x_ow); rfl) | ((with_reducible apply x_owD); rfl) | ((with_reducible apply x_ob); rfl) | ((with_reducible apply x_mo); rfl) | ((with_reducible apply x_tp); rfl) | ((with_reducible apply x_intD2); rfl; rfl) | ((with_reducible apply x_le); exact Nat.le_of_ble_eq_true rfl))
      cases a with
      | int i =>
        rw [lineB_int]
        generalize betw (.int i) 0 (p - 1) = q
        cases q with
        | false => repeat (first | with_reducible apply w_seq | with_reducible apply w_ret | with_reducible apply w_ifS | with_reducible apply w_set | with_reducible apply w_C | with_reducible apply w_nil | with_reducible apply w_cons | with_reducible apply w_tup | with_reducible apply w_lst | with_reducible apply w_d2 | ((with_reducible apply w_var); rfl) | ((with_reducible apply w_varO); rfl) | with_reducible apply w_call | with_reducible apply w_test | with_reducible apply w_V1 | with_reducible apply w_V2 | with_reducible apply w_W2 | with_reducible apply w_chain | with_reducible apply w_tAnd | with_reducible apply w_tOr | with_reducible apply w_tNot | with_reducible apply w_tTrue | with_reducible apply w_and | with_reducible apply w_or | with_reducible apply w_not | with_reducible apply w_ifE | with_reducible apply w_isi | with_reducible apply w_dN | with_reducible apply w_d1 | ((with_reducible apply w_has); (apply x_has; rfl)) | ((with_reducible apply w_take); rfl) | ((with_reducible apply w_takeO); rfl) | with_reducible apply w_no | with_reducible apply w_at | with_reducible apply w_sl | with_reducible apply w_slV | with_reducible apply w_M1 | with_reducible apply w_fmt | with_reducible apply w_js0 | with_reducible apply w_js | with_reducible apply w_iAny | with_reducible apply w_iR1 | with_reducible apply w_iR2 | with_reducible apply w_for | with_reducible apply w_comp | with_reducible apply w_cc | with_reducible apply w_cn | with_reducible apply w_skip | with_reducible apply w_expr | with_reducible apply w_unp | with_reducible apply w_par2 | with_reducible apply w_par3 | with_reducible apply w_emp | with_reducible apply w_setObj | with_reducible apply w_raise | with_reducible apply w_catch | dsimp only [List.set_cons_zero, List.set_cons_succ, wipeD, frz_v, frz_o, frz_d] | ((with_reducible apply x_t); rfl) | ((with_reducible apply x_f); rfl) | ((with_reducible apply xi_int); rfl) | ((with_reducible apply xi_bool); rfl) | ((with_reducible apply xi_str); rfl) | ((with_reducible apply xi_tuple); rfl) | ((with_reducible apply xi_list); rfl) | ((with_reducible apply xi_dict); rfl) | ((with_reducible apply x_chain); rfl) | ((with_reducible apply x_bl); rfl) | ((with_reducible apply x_int); rfl) | ((with_reducible apply x_str); rfl) | ((with_reducible apply x_eq); rfl) | ((with_reducible apply x_intD); rfl) | ((with_reducible apply x_own); rfl) | ((with_reducible apply x_ow); rfl) | ((with_reducible apply x_owD); rfl) | ((with_reducible apply x_ob); rfl) | ((with_reducible apply x_mo); rfl) | ((with_reducible apply x_tp); rfl) | ((with_reducible apply x_intD2); rfl; rfl) | ((with_reducible apply x_le); exact Nat.le_of_ble_eq_true rfl)); exact ⟨rfl, rfl⟩
        | true =>
          repeat (first | with_reducible apply w_seq | with_reducible apply w_ret | with_reducible apply w_ifS | with_reducible apply w_set | with_reducible apply w_C | with_reducible apply w_nil | with_reducible apply w_cons | with_reducible apply w_tup | with_reducible apply w_lst | with_reducible apply w_d2 | ((with_reducible apply w_var); rfl) | ((with_reducible apply w_varO); rfl) | with_reducible apply w_call | with_reducible apply w_test | with_reducible apply w_V1 | with_reducible apply w_V2 | with_reducible apply w_W2 | with_reducible apply w_chain | with_reducible apply w_tAnd | with_reducible apply w_tOr | with_reducible apply w_tNot | with_reducible apply w_tTrue | with_reducible apply w_and | with_reducible apply w_or | with_reducible apply w_not | with_reducible apply w_ifE | with_reducible apply w_isi | with_reducible apply w_dN | with_reducible apply w_d1 | ((with_reducible apply w_has); (apply x_has; rfl)) | ((with_reducible apply w_take); rfl) | ((with_reducible apply w_takeO); rfl) | with_reducible apply w_no | with_reducible apply w_at | with_reducible apply w_sl | with_reducible apply w_slV | with_reducible apply w_M1 | with_reducible apply w_fmt | with_reducible apply w_js0 | with_reducible apply w_js | with_reducible apply w_iAny | with_reducible apply w_iR1 | with_reducible apply w_iR2 | with_reducible apply w_for | with_reducible apply w_comp | with_reducible apply w_cc | with_reducible apply w_cn | with_reducible apply w_skip | with_reducible apply w_expr | with_reducible apply w_unp | with_reducible apply w_par2 | with_reducible apply w_par3 | with_reducible apply w_emp | with_reducible apply w_setObj | with_reducible apply w_raise | with_reducible apply w_catch | dsimp only [List.set_cons_zero, List.set_cons_succ, wipeD, frz_v, frz_o, frz_d] | ((with_reducible apply x_t); rfl) | ((with_reducible apply x_f); rfl) | ((with_reducible apply xi_int); rfl) | ((with_reducible apply xi_bool); rfl) | ((with_reducible apply xi_str); rfl) | ((with_reducible apply xi_tuple); rfl) | ((with_reducible apply xi_list); rfl) | ((with_reducible apply xi_dict); rfl) | ((with_reducible apply x_chain); rfl) | ((with_reducible apply x_bl); rfl) | ((with_reducible apply x_int); rfl) | ((with_reducible apply x_str); rfl) | ((with_reducible apply x_eq); rfl) | ((with_reducible apply x_intD); rfl) | ((with_reducible apply x_own); rfl) | ((with_reducible apply x_ow); rfl) | ((with_reducible apply x_owD); rfl) | ((with_reducible apply x_ob); rfl) | ((with_reducible apply x_mo); rfl) | ((with_reducible apply x_tp); rfl) | ((with_reducible apply x_intD2); rfl; rfl) | ((with_reducible apply x_le); exact Nat.le_of_ble_eq_true rfl))
          refine Ww.eq (is_between_ok hd.2.1 _ _ _) ?_
          repeat (first | with_reducible apply w_seq | with_reducible apply w_ret | with_reducible apply w_ifS | with_reducible apply w_set | with_reducible apply w_C | with_reducible apply w_nil | with_reducible apply w_cons | with_reducible apply w_tup | with_reducible apply w_lst | with_reducible apply w_d2 | ((with_reducible apply w_var); rfl) | ((with_reducible apply w_varO); rfl) | with_reducible apply w_call | with_reducible apply w_test | with_reducible apply w_V1 | with_reducible apply w_V2 | with_reducible apply w_W2 | with_reducible apply w_chain | with_reducible apply w_tAnd | with_reducible apply w_tOr | with_reducible apply w_tNot | with_reducible apply w_tTrue | with_reducible apply w_and | with_reducible apply w_or | with_reducible apply w_not | with_reducible apply w_ifE | with_reducible apply w_isi | with_reducible apply w_dN | with_reducible apply w_d1 | ((with_reducible apply w_has); (apply x_has; rfl)) | ((with_reducible apply w_take); rfl) | ((with_reducible apply w_takeO); rfl) | with_reducible apply w_no | with_reducible apply w_at | with_reducible apply w_sl | with_reducible apply w_slV | with_reducible apply w_M1 | with_reducible apply w_fmt | with_reducible apply w_js0 | with_reducible apply w_js | with_reducible apply w_iAny | with_reducible apply w_iR1 | with_reducible apply w_iR2 | with_reducible apply w_for | with_reducible apply w_comp | with_reducible apply w_cc | with_reducible apply w_cn | with_reducible apply w_skip | with_reducible apply w_expr | with_reducible apply w_unp | with_reducible apply w_par2 | with_reducible apply w_par3 | with_reducible apply w_emp | with_reducible apply w_setObj | with_reducible apply w_raise | with_reducible apply w_catch | dsimp only [List.set_cons_zero, List.set_cons_succ, wipeD, frz_v, frz_o, frz_d] | ((with_reducible apply x_t); rfl) | ((with_reducible apply x_f); rfl) | ((with_reducible apply xi_int); rfl) | ((with_reducible apply xi_bool); rfl) | ((with_reducible apply xi_str); rfl) | ((with_reducible apply xi_tuple); rfl) | ((with_reducible apply xi_list); rfl) | ((with_reducible apply xi_dict); rfl) | ((with_reducible apply x_chain); rfl) | ((with_reducible apply x_bl); rfl) | ((with_reducible apply x_int); rfl) | ((with_reducible apply x_str); rfl) | ((with_reducible apply x_eq); rfl) | ((with_reducible apply x_intD); rfl) | ((with_reducible apply x_own); rfl) | ((with_reducible apply x_ow); rfl) | ((with_reducible apply x_owD); rfl) | ((with_reducible apply x_ob); rfl) | ((with_reducible apply x_mo); rfl) | ((with_reducible apply x_tp); rfl) | ((with_reducible apply x_intD2); rfl; rfl) | ((with_reducible apply x_le); exact Nat.le_of_ble_eq_true rfl))
          generalize betw b (i + 1) (p - 1) = q2
          cases q2 with
          | false => repeat (first | with_reducible apply w_seq | with_reducible apply w_ret | with_reducible apply w_ifS | with_reducible apply w_set | with_reducible apply w_C | with_reducible apply w_nil | with_reducible apply w_cons | with_reducible apply w_tup | with_reducible apply w_lst | with_reducible apply w_d2 | ((with_reducible apply w_var); rfl) | ((with_reducible apply w_varO); rfl) | with_reducible apply w_call | with_reducible apply w_test | with_reducible apply w_V1 | with_reducible apply w_V2 | with_reducible apply w_W2 | with_reducible apply w_chain | with_reducible apply w_tAnd | with_reducible apply w_tOr | with_reducible apply w_tNot | with_reducible apply w_tTrue | with_reducible apply w_and | with_reducible apply w_or | with_reducible apply w_not | with_reducible apply w_ifE | with_reducible apply w_isi | with_reducible apply w_dN | with_reducible apply w_d1 | ((with_reducible apply w_has); (apply x_has; rfl)) | ((with_reducible apply w_take); rfl) | ((with_reducible apply w_takeO); rfl) | with_reducible apply w_no | with_reducible apply w_at | with_reducible apply w_sl | with_reducible apply w_slV | with_reducible apply w_M1 | with_reducible apply w_fmt | with_reducible apply w_js0 | with_reducible apply w_js | with_reducible apply w_iAny | with_reducible apply w_iR1 | with_reducible apply w_iR2 | with_reducible apply w_for | with_reducible apply w_comp | with_reducible apply w_cc | with_reducible apply w_cn | with_reducible apply w_skip | with_reducible apply w_expr | with_reducible apply w_unp | with_reducible apply w_par2 | with_reducible apply w_par3 | with_reducible apply w_emp | with_reducible apply w_setObj | with_reducible apply w_raise | with_reducible apply w_catch | dsimp only [List.set_cons_zero, List.set_cons_succ, wipeD, frz_v, frz_o, frz_d] | ((with_reducible apply x_t); rfl) | ((with_reducible apply x_f); rfl) | ((with_reducible apply xi_int); rfl) | ((with_reducible apply xi_bool); rfl) | ((with_reducible apply xi_str); rfl) | ((with_reducible apply xi_tuple); rfl) | ((with_reducible apply xi_list); rfl) | ((with_reducible apply xi_dict); rfl) | ((with_reducible apply x_chain); rfl) | ((with_reducible apply x_bl); rfl) | ((with_reducible apply x_int); rfl) | ((with_reducible apply x_str); rfl) | ((with_reducible apply x_eq); rfl) | ((with_reducible apply x_intD); rfl) | ((with_reducible apply x_own); rfl) | ((with_reducible apply x_ow); rfl) | ((with_reducible apply x_owD); rfl) | ((with_reducible apply x_ob); rfl) | ((with_reducible apply x_mo); rfl) | ((with_reducible apply x_tp); rfl) | ((with_reducible apply x_intD2); rfl; rfl) | ((with_reducible apply x_le); exact Nat.le_of_ble_eq_true rfl)); exact ⟨rfl, rfl⟩
          | true =>
            repeat (first | with_reducible apply w_seq | with_reducible apply w_ret | with_reducible apply w_ifS | with_reducible apply w_set | with_reducible apply w_C | with_reducible apply w_nil | with_reducible apply w_cons | with_reducible apply w_tup | with_reducible apply w_lst | with_reducible apply w_d2 | ((with_reducible apply w_var); rfl) | ((with_reducible apply w_varO); rfl) | with_reducible apply w_call | with_reducible apply w_test | with_reducible apply w_V1 | with_reducible apply w_V2 | with_reducible apply w_W2 | with_reducible apply w_chain | with_reducible apply w_tAnd | with_reducible apply w_tOr | with_reducible apply w_tNot | with_reducible apply w_tTrue | with_reducible apply w_and | with_reducible apply w_or | with_reducible apply w_not | with_reducible apply w_ifE | with_reducible apply w_isi | with_reducible apply w_dN | with_reducible apply w_d1 | ((with_reducible apply w_has); (apply x_has; rfl)) | ((with_reducible apply w_take); rfl) | ((with_reducible apply w_takeO); rfl) | with_reducible apply w_no | with_reducible apply w_at | with_reducible apply w_sl | with_reducible apply w_slV | with_reducible apply w_M1 | with_reducible apply w_fmt | with_reducible apply w_js0 | with_reducible apply w_js | with_reducible apply w_iAny | with_reducible apply w_iR1 | with_reducible apply w_iR2 | with_reducible apply w_for | with_reducible apply w_comp | with_reducible apply w_cc | with_reducible apply w_cn | with_reducible apply w_skip | with_reducible apply w_expr | with_reducible apply w_unp | with_reducible apply w_par2 | with_reducible apply w_par3 | with_reducible apply w_emp | with_reducible apply w_setObj | with_reducible apply w_raise | with_reducible apply w_catch | dsimp only [List.set_cons_zero, List.set_cons_succ, wipeD, frz_v, frz_o, frz_d] | ((with_reducible apply x_t); rfl) | ((with_reducible apply x_f); rfl) | ((with_reducible apply xi_int); rfl) | ((with_reducible apply xi_bool); rfl) | ((with_reducible apply xi_str); rfl) | ((with_reducible apply xi_tuple); rfl) | ((with_reducible apply xi_list); rfl) | ((with_reducible apply xi_dict); rfl) | ((with_reducible apply x_chain); rfl) | ((with_reducible apply x_bl); rfl) | ((with_reducible apply x_int); rfl) | ((with_reducible apply x_str); rfl) | ((with_reducible apply x_eq); rfl) | ((with_reducible apply x_intD); rfl) | ((with_reducible apply x_own); rfl) | ((with_reducible apply x_ow); rfl) | ((with_reducible apply x_owD); rfl) | ((with_reducible apply x_ob); rfl) | ((with_reducible apply x_mo); rfl) | ((with_reducible apply x_tp); rfl) | ((with_reducible apply x_intD2); rfl; rfl) | ((with_reducible apply x_le); exact Nat.le_of_ble_eq_true rfl))
            refine Ww.eq (is_between_ok hd.2.2 _ _ _) ?_
            exact ⟨rfl, rfl⟩
      | _ => repeat (first | with_reducible apply w_seq | with_reducible apply w_ret | with_reducible apply w_ifS | with_reducible apply w_set | with_reducible apply w_C | with_reducible apply w_nil | with_reducible apply w_cons | with_reducible apply w_tup | with_reducible apply w_lst | with_reducible apply w_d2 | ((with_reducible apply w_var); rfl) | ((with_reducible apply w_varO); rfl) | with_reducible apply w_call | with_reducible apply w_test | with_reducible apply w_V1 | with_reducible apply w_V2 | with_reducible apply w_W2 | with_reducible apply w_chain | with_reducible apply w_tAnd | with_reducible apply w_tOr | with_reducible apply w_tNot | with_reducible apply w_tTrue | with_reducible apply w_and | with_reducible apply w_or | with_reducible apply w_not | with_reducible apply w_ifE | with_reducible apply w_isi | with_reducible apply w_dN | with_reducible apply w_d1 | ((with_reducible apply w_has); (apply x_has; rfl)) | ((with_reducible apply w_take); rfl) | ((with_reducible apply w_takeO); rfl) | with_reducible apply w_no | with_reducible apply w_at | with_reducible apply w_sl | with_reducible apply w_slV | with_reducible apply w_M1 | with_reducible apply w_fmt | with_reducible apply w_js0 | with_reducible apply w_js | with_reducible apply w_iAny | with_reducible apply w_iR1 | with_reducible apply w_iR2 | with_reducible apply w_for | with_reducible apply w_comp | with_reducible apply w_cc | with_reducible apply w_cn | with_reducible apply w_skip | with_reducible apply w_expr | with_reducible apply w_unp | with_reducible apply w_par2 | with_reducible apply w_par3 | with_reducible apply w_emp | with_reducible apply w_setObj | with_reducible apply w_raise | with_reducible apply w_catch | dsimp only [List.set_cons_zero, List.set_cons_succ, wipeD, frz_v, frz_o, frz_d] | ((with_reducible apply x_t); rfl) | ((with_reducible apply x_f); rfl) | ((with_reducible apply xi_int); rfl) | ((with_reducible apply xi_bool); rfl) | ((with_reducible apply xi_str); rfl) | ((with_reducible apply xi_tuple); rfl) | ((with_reducible apply xi_list); rfl) | ((with_reducible apply xi_dict); rfl) | ((with_reducible apply x_chain); rfl) | ((with_reducible apply x_bl); rfl) | ((with_reducible apply x_int); rfl) | ((with_reducible apply x_str); rfl) | ((with_reducible apply x_eq); rfl) | ((with_reducible apply x_intD); rfl) | ((with_reducible apply x_own); rfl) | ((with_reducible apply x_ow); rfl) | ((with_reducible apply x_owD); rfl) | ((with_reducible apply x_ob); rfl) | ((with_reducible apply x_mo); rfl) | ((with_reducible apply x_tp); rfl) | ((with_reducible apply x_intD2); rfl; rfl) | ((with_reducible apply x_le); exact Nat.le_of_ble_eq_true rfl)); exact ⟨rfl, rfl⟩
    | a :: b :: c :: d :: r, _ => repeat (first | with_reducible apply w_seq | with_reducible apply w_ret | with_reducible apply w_ifS | with_reducible apply w_set | with_reducible apply w_C | with_reducible apply w_nil | with_reducible apply w_cons | with_reducible apply w_tup | with_reducible apply w_lst | with_reducible apply w_d2 | ((with_reducible apply w_var); rfl) | ((with_reducible apply w_varO); rfl) | with_reducible apply w_call | with_reducible apply w_test | with_reducible apply w_V1 | with_reducible apply w_V2 | with_reducible apply w_W2 | with_reducible apply w_chain | with_reducible apply w_tAnd | with_reducible apply w_tOr | with_reducible apply w_tNot | with_reducible apply w_tTrue | with_reducible apply w_and | with_reducible apply w_or | with_reducible apply w_not | with_reducible apply w_ifE | with_reducible apply w_isi | with_reducible apply w_dN | with_reducible apply w_d1 | ((with_reducible apply w_has); (apply x_has; rfl)) | ((with_reducible apply w_take); rfl) | ((with_reducible apply w_takeO); rfl) | with_reducible apply w_no | with_reducible apply w_at | with_reducible apply w_sl | with_reducible apply w_slV | with_reducible apply w_M1 | with_reducible apply w_fmt | with_reducible apply w_js0 | with_reducible apply w_js | with_reducible apply w_iAny | with_reducible apply w_iR1 | with_reducible apply w_iR2 | with_reducible apply w_for | with_reducible apply w_comp | with_reducible apply w_cc | with_reducible apply w_cn | with_reducible apply w_skip | with_reducible apply w_expr | with_reducible apply w_unp | with_reducible apply w_par2 | with_reducible apply w_par3 | with_reducible apply w_emp | with_reducible apply w_setObj | with_reducible apply w_raise | with_reducible apply w_catch | dsimp only [List.set_cons_zero, List.set_cons_succ, wipeD, frz_v, frz_o, frz_d] | ((with_reducible apply x_t); rfl) | ((with_reducible apply x_f); rfl) | ((with_reducible apply xi_int); rfl) | ((with_reducible apply xi_bool); rfl) | ((with_reducible apply xi_str); rfl) | ((with_reducible apply xi_tuple); rfl) | ((with_reducible apply xi_list); rfl) | ((with_reducible apply xi_dict); rfl) | ((with_reducible apply x_chain); rfl) | ((with_reducible apply x_bl); rfl) | ((with_reducible apply x_int); rfl) | ((with_reducible apply x_str); rfl) | ((with_reducible apply x_eq); rfl) | ((with_reducible apply x_intD); rfl) | ((with_reducible apply x_own); rfl) | ((with_reducible apply x_ow); rfl) | ((with_reducible apply x_owD); rfl) | ((with_reducible apply x_ob); rfl) | ((with_reducible apply x_mo); rfl) | ((with_reducible apply x_tp); rfl) | ((with_reducible apply x_intD2); rfl; rfl) | ((with_reducible apply x_le); exact Nat.le_of_ble_eq_true rfl)); exact ⟨rfl, rfl⟩
  all_goals (repeat (first | with_reducible apply w_seq | with_reducible apply w_ret | with_reducible apply w_ifS | with_reducible apply w_set | with_reducible apply w_C | with_reducible apply w_nil | with_reducible apply w_cons | with_reducible apply w_tup | with_reducible apply w_lst | with_reducible apply w_d2 | ((with_reducible apply w_var); rfl) | ((with_reducible apply w_varO); rfl) | with_reducible apply w_call | with_reducible apply w_test | with_reducible apply w_V1 | with_reducible apply w_V2 | with_reducible apply w_W2 | with_reducible apply w_chain | with_reducible apply w_tAnd | with_reducible apply w_tOr | with_reducible apply w_tNot | with_reducible apply w_tTrue | with_reducible apply w_and | with_reducible apply w_or | with_reducible apply w_not | with_reducible apply w_ifE | with_reducible apply w_isi | with_reducible apply w_dN | with_reducible apply w_d1 | ((with_reducible apply w_has); (apply x_has; rfl)) | ((with_reducible apply w_take); rfl) | ((with_reducible apply w_takeO); rfl) | with_reducible apply w_no | with_reducible apply w_at | with_reducible apply w_sl | with_reducible apply w_slV | with_reducible apply w_M1 | with_reducible apply w_fmt | with_reducible apply w_js0 | with_reducible apply w_js | with_reducible apply w_iAny | with_reducible apply w_iR1 | with_reducible apply w_iR2 | with_reducible apply w_for | with_reducible apply w_comp | with_reducible apply w_cc | with_reducible apply w_cn | with_reducible apply w_skip | with_reducible apply w_expr | with_reducible apply w_unp | with_reducible apply w_par2 | with_reducible apply w_par3 | with_reducible apply w_emp | with_reducible apply w_setObj | with_reducible apply w_raise | with_reducible apply w_catch | dsimp only [List.set_cons_zero, List.set_cons_succ, wipeD, frz_v, frz_o, frz_d] | ((with_reducible apply x_t); rfl) | ((with_reducible apply x_f); rfl) | ((with_reducible apply xi_int); rfl) | ((with_reducible apply xi_bool); rfl) | ((with_reducible apply xi_str); rfl) | ((with_reducible apply xi_tuple); rfl) | ((with_reducible apply xi_list); rfl) | ((with_reducible apply xi_dict); rfl) | ((with_reducible apply x_chain); rfl) | ((with_reducible apply x_bl); rfl) | ((with_reducible apply x_int); rfl) | ((with_reducible apply x_str); rfl) | ((with_reducible apply x_eq); rfl) | ((with_reducible apply x_intD); rfl) | ((with_reducible apply x_own); rfl) | ((with_reducible apply x_ow); rfl) | ((with_reducible apply x_owD); rfl) | ((with_reducible apply x_ob); rfl) | ((with_reducible apply x_mo); rfl) | ((with_reducible apply x_tp); rfl) | ((with_reducible apply x_intD2); rfl; rfl) | ((with_reducible apply x_le); exact Nat.le_of_ble_eq_true rfl)))
  all_goals exact ⟨rfl, rfl⟩
end T82
namespace T82
open PySem DL
abbrev Ln := Int × Int × Int
def lnD (l : Ln) : D := .tup [.int l.1, .int l.2.1, .int l.2.2]
def extM (met : List Int) (i j : Int) : List Int := if (decide (i ∈ met) != decide (j ∈ met)) = true then met ++ [i, j].filter (fun x => !decide (x ∈ met)) else met
def passM (ls : List Ln) (met : List Int) : List Int := ls.foldl (fun m l => extM m l.1 l.2.1) met
def metN (ls : List Ln) : Nat → List Int
  | 0 => [0]
  | n + 1 => passM ls (metN ls n)
def joinedB (p : Int) (ls : List Ln) : Bool := decide (((metN ls p.toNat).length : Int) = p)
theorem extM_len (met : List Int) (i j : Int) : (extM met i j).length ≤ met.length + 2 := by
  unfold extM
  split
  · rw [List.length_append]
    have := List.length_filter_le (fun x => !decide (x ∈ met)) [i, j]
    simp at this ⊢
    omega
  · omega
theorem ints_filter (met : List Int) (i j : Int) : [D.int i, D.int j].filter (fun d => match d with
    | .int x => !decide (x ∈ met)
    | _ => false) = ([i, j].filter fun x => !decide (x ∈ met)).map D.int := by
  simp only [List.filter_cons, List.filter_nil]
  by_cases h1 : i ∈ met <;> by_cases h2 : j ∈ met <;> simp [h1, h2]
theorem passM_succ {ls : List Ln} {k : Nat} {l : Ln} (h : ls[k]? = some l) (m : List Int) : passM (ls.take (k + 1)) m = extM (passM (ls.take k) m) l.1 l.2.1 := by
  unfold passM
  rw [take_at h, List.foldl_append]; rfl
theorem is_joined_ok {p : Int} {ls : List Ln} (hp : 0 ≤ p ∧ p ≤ 5) (hl : ls.length ≤ 8) (M : List MO) : r_is_joined [.int p, .tup (ls.map lnD)] M = .ok (.val (.bl (joinedB p ls))) ⟨[], M⟩ := by
  refine Ww.to_eq (in_is_joined ?_)
  unfold db_is_joined
  repeat (first | with_reducible apply w_seq | with_reducible apply w_ret | with_reducible apply w_ifS | with_reducible apply w_set | with_reducible apply w_C | with_reducible apply w_nil | with_reducible apply w_cons | with_reducible apply w_tup | with_reducible apply w_lst | with_reducible apply w_d2 | ((with_reducible apply w_var); rfl) | ((with_reducible apply w_varO); rfl) | with_reducible apply w_call | with_reducible apply w_test | with_reducible apply w_V1 | with_reducible apply w_V2 | with_reducible apply w_W2 | with_reducible apply w_chain | with_reducible apply w_tAnd | with_reducible apply w_tOr | with_reducible apply w_tNot | with_reducible apply w_tTrue | with_reducible apply w_and | with_reducible apply w_or | with_reducible apply w_not | with_reducible apply w_ifE | with_reducible apply w_isi | with_reducible apply w_dN | with_reducible apply w_d1 | ((with_reducible apply w_has); (apply x_has; rfl)) | ((with_reducible apply w_take); rfl) | ((with_reducible apply w_takeO); rfl) | with_reducible apply w_no | with_reducible apply w_at | with_reducible apply w_sl | with_reducible apply w_slV | with_reducible apply w_M1 | with_reducible apply w_fmt | with_reducible apply w_js0 | with_reducible apply w_js | with_reducible apply w_iAny | with_reducible apply w_iR1 | with_reducible apply w_iR2 | with_reducible apply w_for | with_reducible apply w_comp | with_reducible apply w_cc | with_reducible apply w_cn | with_reducible apply w_skip | with_reducible apply w_expr | with_reducible apply w_unp | with_reducible apply w_par2 | with_reducible apply w_par3 | with_reducible apply w_emp | with_reducible apply w_setObj | with_reducible apply w_raise | with_reducible apply w_catch | dsimp only [List.set_cons_zero, List.set_cons_succ, wipeD, frz_v, frz_o, frz_d] | ((with_reducible apply x_t); rfl) | ((with_reducible apply x_f); rfl) | ((with_reducible apply xi_int); rfl) | ((with_reducible apply xi_bool); rfl) | ((with_reducible apply xi_str); rfl) | ((with_reducible apply xi_tuple); rfl) | ((with_reducible apply xi_list); rfl) | ((with_reducible apply xi_dict); rfl) | ((with_reducible apply x_chain); rfl) | ((with_reducible apply x_bl); rfl) | ((with_reducible apply x_int); rfl) | ((with_reducible apply x_str); rfl) | ((with_reducible apply x_eq); rfl) | ((with_reducible apply x_intD); rfl) | ((with_reducible apply x_own); rfl) | ((with_reducible apply x_ow); rfl) | ((with_reducible apply x_owD); rfl) | ((with_reducible apply x_ob); rfl) | ((with_reducible apply x_mo); rfl) | ((with_reducible apply x_tp); rfl) | ((with_reducible apply x_intD2); rfl; rfl) | ((with_reducible apply x_le); exact Nat.le_of_ble_eq_true rfl))
  refine ⟨by omega, ?_⟩
  refine w_forK (fun k s => s.M = M ∧ ((metN ls k).length ≤ 1 + 16 * k) ∧ ∃ a b c d e, s.ρ = [some (.val (.int p)), some (.val (.tup (ls.map lnD))), some (.own ((metN ls k).map .int)), a, b, c, d, e]) ⟨rfl, by simp [metN], _, _, _, _, _, rfl⟩ (fun k d s hd hI => ?_) (fun s hI => ?_)
  · obtain ⟨rfl, hlen, a, b, c, d', e, rfl'⟩ := hI
    obtain ⟨ρ, M⟩ := s
    dsimp only at rfl'
    subst rfl'
    obtain ⟨hk, rfl⟩ := rngD_at hd
    refine ⟨_, rfl, ?_⟩
    have hk5 : k < 5 := by omega
    repeat (first | with_reducible apply w_seq | with_reducible apply w_ret | with_reducible apply w_ifS | with_reducible apply w_set | with_reducible apply w_C | with_reducible apply w_nil | with_reducible apply w_cons | with_reducible apply w_tup | with_reducible apply w_lst | with_reducible apply w_d2 | ((with_reducible apply w_var); rfl) | ((with_reducible apply w_varO); rfl) | with_reducible apply w_call | with_reducible apply w_test | with_reducible apply w_V1 | with_reducible apply w_V2 | with_reducible apply w_W2 | with_reducible apply w_chain | with_reducible apply w_tAnd | with_reducible apply w_tOr | with_reducible apply w_tNot | with_reducible apply w_tTrue | with_reducible apply w_and | with_reducible apply w_or | with_reducible apply w_not | with_reducible apply w_ifE | with_reducible apply w_isi | with_reducible apply w_dN | with_reducible apply w_d1 | ((with_reducible apply w_has); (apply x_has; rfl)) | ((with_reducible apply w_take); rfl) | ((with_reducible apply w_takeO); rfl) | with_reducible apply w_no | with_reducible apply w_at | with_reducible apply w_sl | with_reducible apply w_slV | with_reducible apply w_M1 | with_reducible apply w_fmt | with_reducible apply w_js0 | with_reducible apply w_js | with_reducible apply w_iAny | with_reducible apply w_iR1 | with_reducible apply w_iR2 | with_reducible apply w_for | with_reducible apply w_comp | with_reducible apply w_cc | with_reducible apply w_cn | with_reducible apply w_skip | with_reducible apply w_expr | with_reducible apply w_unp | with_reducible apply w_par2 | with_reducible apply w_par3 | with_reducible apply w_emp | with_reducible apply w_setObj | with_reducible apply w_raise | with_reducible apply w_catch | dsimp only [List.set_cons_zero, List.set_cons_succ, wipeD, frz_v, frz_o, frz_d] | ((with_reducible apply x_t); rfl) | ((with_reducible apply x_f); rfl) | ((with_reducible apply xi_int); rfl) | ((with_reducible apply xi_bool); rfl) | ((with_reducible apply xi_str); rfl) | ((with_reducible apply xi_tuple); rfl) | ((with_reducible apply xi_list); rfl) | ((with_reducible apply xi_dict); rfl) | ((with_reducible apply x_chain); rfl) | ((with_reducible apply x_bl); rfl) | ((with_reducible apply x_int); rfl) | ((with_reducible apply x_str); rfl) | ((with_reducible apply x_eq); rfl) | ((with_reducible apply x_intD); rfl) | ((with_reducible apply x_own); rfl) | ((with_reducible apply x_ow); rfl) | ((with_reducible apply x_owD); rfl) | ((with_reducible apply x_ob); rfl) | ((with_reducible apply x_mo); rfl) | ((with_reducible apply x_tp); rfl) | ((with_reducible apply x_intD2); rfl; rfl) | ((with_reducible apply x_le); exact Nat.le_of_ble_eq_true rfl))
    refine w_forK (fun j s => s.M = M ∧ ((passM (ls.take j) (metN ls k)).length ≤ 1 + 16 * k + 2 * j) ∧ ∃ a b c d e, s.ρ = [some (.val (.int p)), some (.val (.tup (ls.map lnD))), some (.own ((passM (ls.take j) (metN ls k)).map .int)), a, b, c, d, e]) ⟨rfl, by simpa [passM] using hlen, _, _, _, _, _, rfl⟩ (fun j d s hd hI => ?_) (fun s hI => ?_)
    · obtain ⟨e1, hlen2, a, b, c, d', e, e2⟩ := hI
      obtain ⟨ρ, M2⟩ := s
      dsimp only at e1 e2
      subst e1 e2
      obtain ⟨l, hl2, rfl⟩ := map_at hd
      refine ⟨_, rfl, ?_⟩
      have hj : j < 8 := by
        have := (List.getElem?_eq_some_iff.mp hl2).1
        omega
      have hstep := passM_succ hl2 (metN ls k)
      generalize hm : passM (ls.take j) (metN ls k) = met at hlen2 hstep ⊢
      repeat (first | ((with_reducible apply x_eq); exact oIn_ints _ _ _) | with_reducible apply w_seq | with_reducible apply w_ret | with_reducible apply w_ifS | with_reducible apply w_set | with_reducible apply w_C | with_reducible apply w_nil | with_reducible apply w_cons | with_reducible apply w_tup | with_reducible apply w_lst | with_reducible apply w_d2 | ((with_reducible apply w_var); rfl) | ((with_reducible apply w_varO); rfl) | with_reducible apply w_call | with_reducible apply w_test | with_reducible apply w_V1 | with_reducible apply w_V2 | with_reducible apply w_W2 | with_reducible apply w_chain | with_reducible apply w_tAnd | with_reducible apply w_tOr | with_reducible apply w_tNot | with_reducible apply w_tTrue | with_reducible apply w_and | with_reducible apply w_or | with_reducible apply w_not | with_reducible apply w_ifE | with_reducible apply w_isi | with_reducible apply w_dN | with_reducible apply w_d1 | ((with_reducible apply w_has); (apply x_has; rfl)) | ((with_reducible apply w_take); rfl) | ((with_reducible apply w_takeO); rfl) | with_reducible apply w_no | with_reducible apply w_at | with_reducible apply w_sl | with_reducible apply w_slV | with_reducible apply w_M1 | with_reducible apply w_fmt | with_reducible apply w_js0 | with_reducible apply w_js | with_reducible apply w_iAny | with_reducible apply w_iR1 | with_reducible apply w_iR2 | with_reducible apply w_for | with_reducible apply w_comp | with_reducible apply w_cc | with_reducible apply w_cn | with_reducible apply w_skip | with_reducible apply w_expr | with_reducible apply w_unp | with_reducible apply w_par2 | with_reducible apply w_par3 | with_reducible apply w_emp | with_reducible apply w_setObj | with_reducible apply w_raise | with_reducible apply w_catch | dsimp only [List.set_cons_zero, List.set_cons_succ, wipeD, frz_v, frz_o, frz_d] | ((with_reducible apply x_t); rfl) | ((with_reducible apply x_f); rfl) | ((with_reducible apply xi_int); rfl) | ((with_reducible apply xi_bool); rfl) | ((with_reducible apply xi_str); rfl) | ((with_reducible apply xi_tuple); rfl) | ((with_reducible apply xi_list); rfl) | ((with_reducible apply xi_dict); rfl) | ((with_reducible apply x_chain); rfl) | ((with_reducible apply x_bl); rfl) | ((with_reducible apply x_int); rfl) | ((with_reducible apply x_str); rfl) | ((with_reducible apply x_eq); rfl) | ((with_reducible apply x_intD); rfl) | ((with_reducible apply x_own); rfl) | ((with_reducible apply x_ow); rfl) | ((with_reducible apply x_owD); rfl) | ((with_reducible apply x_ob); rfl) | ((with_reducible apply x_mo); rfl) | ((with_reducible apply x_tp); rfl) | ((with_reducible apply x_intD2); rfl; rfl) | ((with_reducible apply x_le); exact Nat.le_of_ble_eq_true rfl))
      refine x_split (fun hc => ?_) (fun hc => ?_)
      · have hc' : (decide (l.1 ∈ met) != decide (l.2.1 ∈ met)) = true := by simpa [frz, eqv_bb] using hc
        have hx : extM met l.1 l.2.1 = met ++ [l.1, l.2.1].filter (fun x => !decide (x ∈ met)) := if_pos hc'
        refine w_expr (w_mutO rfl ?_)
        repeat' (first | ((with_reducible apply x_eq); exact oIn_ints _ _ _) | with_reducible apply w_seq | with_reducible apply w_ret | with_reducible apply w_ifS | with_reducible apply w_set | with_reducible apply w_C | with_reducible apply w_nil | with_reducible apply w_cons | with_reducible apply w_tup | with_reducible apply w_lst | with_reducible apply w_d2 | ((with_reducible apply w_var); rfl) | ((with_reducible apply w_varO); rfl) | with_reducible apply w_call | with_reducible apply w_test | with_reducible apply w_V1 | with_reducible apply w_V2 | with_reducible apply w_W2 | with_reducible apply w_chain | with_reducible apply w_tAnd | with_reducible apply w_tOr | with_reducible apply w_tNot | with_reducible apply w_tTrue | with_reducible apply w_and | with_reducible apply w_or | with_reducible apply w_not | with_reducible apply w_ifE | with_reducible apply w_isi | with_reducible apply w_dN | with_reducible apply w_d1 | ((with_reducible apply w_has); (apply x_has; rfl)) | ((with_reducible apply w_take); rfl) | ((with_reducible apply w_takeO); rfl) | with_reducible apply w_no | with_reducible apply w_at | with_reducible apply w_sl | with_reducible apply w_slV | with_reducible apply w_M1 | with_reducible apply w_fmt | with_reducible apply w_js0 | with_reducible apply w_js | with_reducible apply w_iAny | with_reducible apply w_iR1 | with_reducible apply w_iR2 | with_reducible apply w_for | with_reducible apply w_comp | with_reducible apply w_cc | with_reducible apply w_cn | with_reducible apply w_skip | with_reducible apply w_expr | with_reducible apply w_unp | with_reducible apply w_par2 | with_reducible apply w_par3 | with_reducible apply w_emp | with_reducible apply w_setObj | with_reducible apply w_raise | with_reducible apply w_catch | dsimp only [List.set_cons_zero, List.set_cons_succ, wipeD, frz_v, frz_o, frz_d] | ((with_reducible apply x_t); rfl) | ((with_reducible apply x_f); rfl) | ((with_reducible apply xi_int); rfl) | ((with_reducible apply xi_bool); rfl) | ((with_reducible apply xi_str); rfl) | ((with_reducible apply xi_tuple); rfl) | ((with_reducible apply xi_list); rfl) | ((with_reducible apply xi_dict); rfl) | ((with_reducible apply x_chain); rfl) | ((with_reducible apply x_bl); rfl) | ((with_reducible apply x_int); rfl) | ((with_reducible apply x_str); rfl) | ((with_reducible apply x_eq); rfl) | ((with_reducible apply x_intD); rfl) | ((with_reducible apply x_own); rfl) | ((with_reducible apply x_ow); rfl) | ((with_reducible apply x_owD); rfl) | ((with_reducible apply x_ob); rfl) | ((with_reducible apply x_mo); rfl) | ((with_reducible apply x_tp); rfl) | ((with_reducible apply x_intD2); rfl; rfl) | ((with_reducible apply x_le); exact Nat.le_of_ble_eq_true rfl) | ((with_reducible refine x_split ?_ ?_); rotate_left; intro _; rotate_right; intro _))
        all_goals (refine x_eq (fExt_ok (lim_ge ?_)) ⟨rfl, ?_, a, some (.val (.int l.1)), some (.val (.int l.2.1)), some (.val (.int l.2.2)), none, ?_⟩)
        all_goals simp_all
        all_goals omega
      · have hc' : ¬ (decide (l.1 ∈ met) != decide (l.2.1 ∈ met)) = true := by
          have : (decide (l.1 ∈ met) != decide (l.2.1 ∈ met)) = false := by simpa [frz, eqv_bb] using hc
          rw [this]; exact ft
        have hx : extM met l.1 l.2.1 = met := if_neg hc'
        repeat (first | with_reducible apply w_seq | with_reducible apply w_ret | with_reducible apply w_ifS | with_reducible apply w_set | with_reducible apply w_C | with_reducible apply w_nil | with_reducible apply w_cons | with_reducible apply w_tup | with_reducible apply w_lst | with_reducible apply w_d2 | ((with_reducible apply w_var); rfl) | ((with_reducible apply w_varO); rfl) | with_reducible apply w_call | with_reducible apply w_test | with_reducible apply w_V1 | with_reducible apply w_V2 | with_reducible apply w_W2 | with_reducible apply w_chain | with_reducible apply w_tAnd | with_reducible apply w_tOr | with_reducible apply w_tNot | with_reducible apply w_tTrue | with_reducible apply w_and | with_reducible apply w_or | with_reducible apply w_not | with_reducible apply w_ifE | with_reducible apply w_isi | with_reducible apply w_dN | with_reducible apply w_d1 | ((with_reducible apply w_has); (apply x_has; rfl)) | ((with_reducible apply w_take); rfl) | ((with_reducible apply w_takeO); rfl) | with_reducible apply w_no | with_reducible apply w_at | with_reducible apply w_sl | with_reducible apply w_slV | with_reducible apply w_M1 | with_reducible apply w_fmt | with_reducible apply w_js0 | with_reducible apply w_js | with_reducible apply w_iAny | with_reducible apply w_iR1 | with_reducible apply w_iR2 | with_reducible apply w_for | with_reducible apply w_comp | with_reducible apply w_cc | with_reducible apply w_cn | with_reducible apply w_skip | with_reducible apply w_expr | with_reducible apply w_unp | with_reducible apply w_par2 | with_reducible apply w_par3 | with_reducible apply w_emp | with_reducible apply w_setObj | with_reducible apply w_raise | with_reducible apply w_catch | dsimp only [List.set_cons_zero, List.set_cons_succ, wipeD, frz_v, frz_o, frz_d] | ((with_reducible apply x_t); rfl) | ((with_reducible apply x_f); rfl) | ((with_reducible apply xi_int); rfl) | ((with_reducible apply xi_bool); rfl) | ((with_reducible apply xi_str); rfl) | ((with_reducible apply xi_tuple); rfl) | ((with_reducible apply xi_list); rfl) | ((with_reducible apply xi_dict); rfl) | ((with_reducible apply x_chain); rfl) | ((with_reducible apply x_bl); rfl) | ((with_reducible apply x_int); rfl) | ((with_reducible apply x_str); rfl) | ((with_reducible apply x_eq); rfl) | ((with_reducible apply x_intD); rfl) | ((with_reducible apply x_own); rfl) | ((with_reducible apply x_ow); rfl) | ((with_reducible apply x_owD); rfl) | ((with_reducible apply x_ob); rfl) | ((with_reducible apply x_mo); rfl) | ((with_reducible apply x_tp); rfl) | ((with_reducible apply x_intD2); rfl; rfl) | ((with_reducible apply x_le); exact Nat.le_of_ble_eq_true rfl))
        rw [hstep, hx]
        exact ⟨rfl, by omega, _, _, _, _, _, rfl⟩
    · obtain ⟨e1, hlen2, q⟩ := hI
      have e : (ls.map lnD).length = ls.length := List.length_map ..
      rw [e, List.take_length] at hlen2 q
      exact ⟨e1, by show (passM ls (metN ls k)).length ≤ _; omega, q⟩
  · obtain ⟨e1, hlen2, a, b, c, d', e, e2⟩ := hI
    obtain ⟨ρ, M2⟩ := s
    dsimp only at e1 e2
    subst e1 e2
    rw [rngD_len]
    repeat (first | with_reducible apply w_seq | with_reducible apply w_ret | with_reducible apply w_ifS | with_reducible apply w_set | with_reducible apply w_C | with_reducible apply w_nil | with_reducible apply w_cons | with_reducible apply w_tup | with_reducible apply w_lst | with_reducible apply w_d2 | ((with_reducible apply w_var); rfl) | ((with_reducible apply w_varO); rfl) | with_reducible apply w_call | with_reducible apply w_test | with_reducible apply w_V1 | with_reducible apply w_V2 | with_reducible apply w_W2 | with_reducible apply w_chain | with_reducible apply w_tAnd | with_reducible apply w_tOr | with_reducible apply w_tNot | with_reducible apply w_tTrue | with_reducible apply w_and | with_reducible apply w_or | with_reducible apply w_not | with_reducible apply w_ifE | with_reducible apply w_isi | with_reducible apply w_dN | with_reducible apply w_d1 | ((with_reducible apply w_has); (apply x_has; rfl)) | ((with_reducible apply w_take); rfl) | ((with_reducible apply w_takeO); rfl) | with_reducible apply w_no | with_reducible apply w_at | with_reducible apply w_sl | with_reducible apply w_slV | with_reducible apply w_M1 | with_reducible apply w_fmt | with_reducible apply w_js0 | with_reducible apply w_js | with_reducible apply w_iAny | with_reducible apply w_iR1 | with_reducible apply w_iR2 | with_reducible apply w_for | with_reducible apply w_comp | with_reducible apply w_cc | with_reducible apply w_cn | with_reducible apply w_skip | with_reducible apply w_expr | with_reducible apply w_unp | with_reducible apply w_par2 | with_reducible apply w_par3 | with_reducible apply w_emp | with_reducible apply w_setObj | with_reducible apply w_raise | with_reducible apply w_catch | dsimp only [List.set_cons_zero, List.set_cons_succ, wipeD, frz_v, frz_o, frz_d] | ((with_reducible apply x_t); rfl) | ((with_reducible apply x_f); rfl) | ((with_reducible apply xi_int); rfl) | ((with_reducible apply xi_bool); rfl) | ((with_reducible apply xi_str); rfl) | ((with_reducible apply xi_tuple); rfl) | ((with_reducible apply xi_list); rfl) | ((with_reducible apply xi_dict); rfl) | ((with_reducible apply x_chain); rfl) | ((with_reducible apply x_bl); rfl) | ((with_reducible apply x_int); rfl) | ((with_reducible apply x_str); rfl) | ((with_reducible apply x_eq); rfl) | ((with_reducible apply x_intD); rfl) | ((with_reducible apply x_own); rfl) | ((with_reducible apply x_ow); rfl) | ((with_reducible apply x_owD); rfl) | ((with_reducible apply x_ob); rfl) | ((with_reducible apply x_mo); rfl) | ((with_reducible apply x_tp); rfl) | ((with_reducible apply x_intD2); rfl; rfl) | ((with_reducible apply x_le); exact Nat.le_of_ble_eq_true rfl))
    refine ⟨?_, rfl⟩
    rw [List.length_map]
    show SV.val (.bl (eqv (.int _) (.int _))) = _
    rw [eqv_ii]; rfl
end T82
namespace T82
open PySem DL
def ltL (a b : Ln) : Bool := HT.lexLt [a.1, a.2.1] [b.1, b.2.1]
def cmpAt (ls : List Ln) (k : Nat) : Bool := match ls[k]?, ls[k + 1]? with
  | some a, some b => ltL a b
  | _, _ => false
def ordB (ls : List Ln) : Bool := (List.range (ls.length - 1)).all (cmpAt ls)
/-- lines of so many places -/
def okL (p : Int) (l : Ln) : Prop := 0 ≤ l.1 ∧ l.1 < l.2.1 ∧ l.2.1 ≤ p - 1 ∧ 1 ≤ l.2.2 ∧ l.2.2 ≤ 100
theorem lineB_ln {p : Int} {d : D} (h : lineB p d = true) : ∃ l, d = lnD l ∧ okL p l := by
  unfold lineB at h
  split at h
  · rename_i a b c
    rw [Bool.and_eq_true] at h
    cases a with
    | int i =>
      obtain ⟨h1, h2⟩ := h
      dsimp only at h2
      rw [Bool.and_eq_true] at h2
      cases b with
      | int j =>
        cases c with
        | int r =>
          simp only [betw_int, Bool.and_eq_true, decide_eq_true_eq] at h1 h2
          exact ⟨(i, j, r), rfl, by unfold okL; dsimp only; omega⟩
        | _ => simp [betw] at h2
      | _ => simp [betw] at h2
    | _ => simp [betw] at h
  · cases h
theorem lineB_of {p : Int} {l : Ln} (h : okL p l) : lineB p (lnD l) = true := by
  unfold okL at h
  show lineB p (.tup [.int _, .int _, .int _]) = true
  rw [lineB_int]
  simp only [betw_int, Bool.and_eq_true, decide_eq_true_eq]
  omega
theorem lines_of {p : Int} : ∀ {ds : List D}, ds.all (lineB p) = true → ∃ ls : List Ln, ds = ls.map lnD ∧ ∀ l ∈ ls, okL p l
  | [], _ => ⟨[], rfl, fun l h => by cases h⟩
  | d :: ds, h => by
    rw [List.all_cons, Bool.and_eq_true] at h
    obtain ⟨l, e, o⟩ := lineB_ln h.1
    obtain ⟨ls, e2, o2⟩ := lines_of h.2
    exact ⟨l :: ls, by rw [e, e2]; rfl, fun x hx => by
      rcases List.mem_cons.mp hx with rfl | hx
      · exact o
      · exact o2 x hx⟩
def goodL (d : D) : Bool := top1 d && match d with
  | .tup es => es.all top1
  | _ => true
def goodV (v : D) : Bool := match v with
  | .tup [a, .tup ds] => top1 a && ds.all goodL
  | .tup ds => ds.all top1
  | d => top1 d
/-- the net of places p and lines ls -/
def netD (p : Int) (ls : List Ln) : D := .tup [.int p, .tup (ls.map lnD)]
structure NetOk (p : Int) (ls : List Ln) : Prop where
  p2 : 2 ≤ p
  p5 : p ≤ 5
  len : ls.length ≤ 8
  lines : ∀ l ∈ ls, okL p l
  ord : ordB ls = true
  join : joinedB p ls = true
theorem is_net_line {ds : List D} (h : ds.all goodL = true) {d : D} (hd : d ∈ ds) : top1 d = true ∧ ∀ es, d = .tup es → es.all top1 = true := by
  have := List.all_eq_true.mp h d hd
  unfold goodL at this
  rw [Bool.and_eq_true] at this
  exact ⟨this.1, fun es e => by subst e; exact this.2⟩
theorem lnD_inj : ∀ {ls ls' : List Ln}, ls.map lnD = ls'.map lnD → ls = ls'
  | [], [], _ => rfl
  | [], _ :: _, h => by cases h
  | _ :: _, [], h => by cases h
  | a :: r, b :: r', h => by
    rw [List.map_cons, List.map_cons] at h
    injection h with h1 h2
    obtain ⟨a1, a2, a3⟩ := a
    obtain ⟨b1, b2, b3⟩ := b
    have h1' : D.tup [D.int a1, D.int a2, D.int a3] = D.tup [D.int b1, D.int b2, D.int b3] := h1
    injection h1' with h1'
    simp only [List.cons.injEq, D.int.injEq, and_true] at h1'
    rw [h1'.1, h1'.2.1, h1'.2.2, lnD_inj h2]
def isNet (v : D) : Prop := ∃ p ls, v = netD p ls ∧ NetOk p ls
theorem is_net_ok {v : D} (hv : goodV v = true) (M : List MO) : ∃ b, r_is_net [v] M = .ok (.val (.bl b)) ⟨[], M⟩ ∧ (b = true ↔ isNet v) := by
  suffices h : Ww NoX (r_is_net [v] M) fun x s => ∃ b, (x = .val (.bl b) ∧ s = ⟨[], M⟩) ∧ (b = true ↔ isNet v) by
    obtain ⟨x, s, e, b, ⟨rfl, rfl⟩, h2⟩ := h.get
    exact ⟨b, e, h2⟩
  have nof : ∀ v : D, (∀ a b, v ≠ .tup [a, b]) → (false = true ↔ isNet v) := fun v h => ⟨fun z => absurd z ft, fun ⟨p, ls, e, _⟩ => absurd e (h _ _)⟩
  refine in_is_net ?_
  unfold db_is_net
  cases v <;> first | (cases hv; done) | skip
  case tup ds =>
    match ds, hv with
    | [], _ => repeat (first | with_reducible apply w_seq | with_reducible apply w_ret | with_reducible apply w_ifS | with_reducible apply w_set | with_reducible apply w_C | with_reducible apply w_nil | with_reducible apply w_cons | with_reducible apply w_tup | with_reducible apply w_lst | with_reducible apply w_d2 | ((with_reducible apply w_var); rfl) | ((with_reducible apply w_varO); rfl) | with_reducible apply w_call | with_reducible apply w_test | with_reducible apply w_V1 | with_reducible apply w_V2 | with_reducible apply w_W2 | with_reducible apply w_chain | with_reducible apply w_tAnd | with_reducible apply w_tOr | with_reducible apply w_tNot | with_reducible apply w_tTrue | with_reducible apply w_and | with_reducible apply w_or | with_reducible apply w_not | with_reducible apply w_ifE | with_reducible apply w_isi | with_reducible apply w_dN | with_reducible apply w_d1 | ((with_reducible apply w_has); (apply x_has; rfl)) | ((with_reducible apply w_take); rfl) | ((with_reducible apply w_takeO); rfl) | with_reducible apply w_no | with_reducible apply w_at | with_reducible apply w_sl | with_reducible apply w_slV | with_reducible apply w_M1 | with_reducible apply w_fmt | with_reducible apply w_js0 | with_reducible apply w_js | with_reducible apply w_iAny | with_reducible apply w_iR1 | with_reducible apply w_iR2 | with_reducible apply w_for | with_reducible apply w_comp | with_reducible apply w_cc | with_reducible apply w_cn | with_reducible apply w_skip | with_reducible apply w_expr | with_reducible apply w_unp | with_reducible apply w_par2 | with_reducible apply w_par3 | with_reducible apply w_emp | with_reducible apply w_setObj | with_reducible apply w_raise | with_reducible apply w_catch | dsimp only [List.set_cons_zero, List.set_cons_succ, wipeD, frz_v, frz_o, frz_d] | ((with_reducible apply x_t); rfl) | ((with_reducible apply x_f); rfl) | ((with_reducible apply xi_int); rfl) | ((with_reducible apply xi_bool); rfl) | ((with_reducible apply xi_str); rfl) | ((with_reducible apply xi_tuple); rfl) | ((with_reducible apply xi_list); rfl) | ((with_reducible apply xi_dict); rfl) | ((with_reducible apply x_chain); rfl) | ((with_reducible apply x_bl); rfl) | ((with_reducible apply x_int); rfl) | ((with_reducible apply x_str); rfl) | ((with_reducible apply x_eq); rfl) | ((with_reducible apply x_intD); rfl) | ((with_reducible apply x_own); rfl) | ((with_reducible apply x_ow); rfl) | ((with_reducible apply x_owD); rfl) | ((with_reducible apply x_ob); rfl) | ((with_reducible apply x_mo); rfl) | ((with_reducible apply x_tp); rfl) | ((with_reducible apply x_intD2); rfl; rfl) | ((with_reducible apply x_le); exact Nat.le_of_ble_eq_true rfl)); exact ⟨false, ⟨rfl, rfl⟩, nof _ (fun a b e => by cases e)⟩
    | [a], _ => repeat (first | with_reducible apply w_seq | with_reducible apply w_ret | with_reducible apply w_ifS | with_reducible apply w_set | with_reducible apply w_C | with_reducible apply w_nil | with_reducible apply w_cons | with_reducible apply w_tup | with_reducible apply w_lst | with_reducible apply w_d2 | ((with_reducible apply w_var); rfl) | ((with_reducible apply w_varO); rfl) | with_reducible apply w_call | with_reducible apply w_test | with_reducible apply w_V1 | with_reducible apply w_V2 | with_reducible apply w_W2 | with_reducible apply w_chain | with_reducible apply w_tAnd | with_reducible apply w_tOr | with_reducible apply w_tNot | with_reducible apply w_tTrue | with_reducible apply w_and | with_reducible apply w_or | with_reducible apply w_not | with_reducible apply w_ifE | with_reducible apply w_isi | with_reducible apply w_dN | with_reducible apply w_d1 | ((with_reducible apply w_has); (apply x_has; rfl)) | ((with_reducible apply w_take); rfl) | ((with_reducible apply w_takeO); rfl) | with_reducible apply w_no | with_reducible apply w_at | with_reducible apply w_sl | with_reducible apply w_slV | with_reducible apply w_M1 | with_reducible apply w_fmt | with_reducible apply w_js0 | with_reducible apply w_js | with_reducible apply w_iAny | with_reducible apply w_iR1 | with_reducible apply w_iR2 | with_reducible apply w_for | with_reducible apply w_comp | with_reducible apply w_cc | with_reducible apply w_cn | with_reducible apply w_skip | with_reducible apply w_expr | with_reducible apply w_unp | with_reducible apply w_par2 | with_reducible apply w_par3 | with_reducible apply w_emp | with_reducible apply w_setObj | with_reducible apply w_raise | with_reducible apply w_catch | dsimp only [List.set_cons_zero, List.set_cons_succ, wipeD, frz_v, frz_o, frz_d] | ((with_reducible apply x_t); rfl) | ((with_reducible apply x_f); rfl) | ((with_reducible apply xi_int); rfl) | ((with_reducible apply xi_bool); rfl) | ((with_reducible apply xi_str); rfl) | ((with_reducible apply xi_tuple); rfl) | ((with_reducible apply xi_list); rfl) | ((with_reducible apply xi_dict); rfl) | ((with_reducible apply x_chain); rfl) | ((with_reducible apply x_bl); rfl) | ((with_reducible apply x_int); rfl) | ((with_reducible apply x_str); rfl) | ((with_reducible apply x_eq); rfl) | ((with_reducible apply x_intD); rfl) | ((with_reducible apply x_own); rfl) | ((with_reducible apply x_ow); rfl) | ((with_reducible apply x_owD); rfl) | ((with_reducible apply x_ob); rfl) | ((with_reducible apply x_mo); rfl) | ((with_reducible apply x_tp); rfl) | ((with_reducible apply x_intD2); rfl; rfl) | ((with_reducible apply x_le); exact Nat.le_of_ble_eq_true rfl)); exact ⟨false, ⟨rfl, rfl⟩, nof _ (fun a b e => by cases e)⟩
    | [a, b], hv =>
      have ha : top1 a = true := by
        unfold goodV at hv
        cases b <;> simp_all
      repeat (first | with_reducible apply w_seq | with_reducible apply w_ret | with_reducible apply w_ifS | with_reducible apply w_set | with_reducible apply w_C | with_reducible apply w_nil | with_reducible apply w_cons | with_reducible apply w_tup | with_reducible apply w_lst | with_reducible apply w_d2 | ((with_reducible apply w_var); rfl) | ((with_reducible apply w_varO); rfl) | with_reducible apply w_call | with_reducible apply w_test | with_reducible apply w_V1 | with_reducible apply w_V2 | with_reducible apply w_W2 | with_reducible apply w_chain | with_reducible apply w_tAnd | with_reducible apply w_tOr | with_reducible apply w_tNot | with_reducible apply w_tTrue | with_reducible apply w_and | with_reducible apply w_or | with_reducible apply w_not | with_reducible apply w_ifE | with_reducible apply w_isi | with_reducible apply w_dN | with_reducible apply w_d1 | ((with_reducible apply w_has); (apply x_has; rfl)) | ((with_reducible apply w_take); rfl) | ((with_reducible apply w_takeO); rfl) | with_reducible apply w_no | with_reducible apply w_at | with_reducible apply w_sl | with_reducible apply w_slV | with_reducible apply w_M1 | with_reducible apply w_fmt | with_reducible apply w_js0 | with_reducible apply w_js | with_reducible apply w_iAny | with_reducible apply w_iR1 | with_reducible apply w_iR2 | with_reducible apply w_for | with_reducible apply w_comp | with_reducible apply w_cc | with_reducible apply w_cn | with_reducible apply w_skip | with_reducible apply w_expr | with_reducible apply w_unp | with_reducible apply w_par2 | with_reducible apply w_par3 | with_reducible apply w_emp | with_reducible apply w_setObj | with_reducible apply w_raise | with_reducible apply w_catch | dsimp only [List.set_cons_zero, List.set_cons_succ, wipeD, frz_v, frz_o, frz_d] | ((with_reducible apply x_t); rfl) | ((with_reducible apply x_f); rfl) | ((with_reducible apply xi_int); rfl) | ((with_reducible apply xi_bool); rfl) | ((with_reducible apply xi_str); rfl) | ((with_reducible apply xi_tuple); rfl) | ((with_reducible apply xi_list); rfl) | ((with_reducible apply xi_dict); rfl) | ((with_reducible apply x_chain); rfl) | ((with_reducible apply x_bl); rfl) | ((with_reducible apply x_int); rfl) | ((with_reducible apply x_str); rfl) | ((with_reducible apply x_eq); rfl) | ((with_reducible apply x_intD); rfl) | ((with_reducible apply x_own); rfl) | ((with_reducible apply x_ow); rfl) | ((with_reducible apply x_owD); rfl) | ((with_reducible apply x_ob); rfl) | ((with_reducible apply x_mo); rfl) | ((with_reducible apply x_tp); rfl) | ((with_reducible apply x_intD2); rfl; rfl) | ((with_reducible apply x_le); exact Nat.le_of_ble_eq_true rfl))
      refine Ww.eq (is_between_ok ha _ _ _) ?_
      repeat (first | with_reducible apply w_seq | with_reducible apply w_ret | with_reducible apply w_ifS | with_reducible apply w_set | with_reducible apply w_C | with_reducible apply w_nil | with_reducible apply w_cons | with_reducible apply w_tup | with_reducible apply w_lst | with_reducible apply w_d2 | ((with_reducible apply w_var); rfl) | ((with_reducible apply w_varO); rfl) | with_reducible apply w_call | with_reducible apply w_test | with_reducible apply w_V1 | with_reducible apply w_V2 | with_reducible apply w_W2 | with_reducible apply w_chain | with_reducible apply w_tAnd | with_reducible apply w_tOr | with_reducible apply w_tNot | with_reducible apply w_tTrue | with_reducible apply w_and | with_reducible apply w_or | with_reducible apply w_not | with_reducible apply w_ifE | with_reducible apply w_isi | with_reducible apply w_dN | with_reducible apply w_d1 | ((with_reducible apply w_has); (apply x_has; rfl)) | ((with_reducible apply w_take); rfl) | ((with_reducible apply w_takeO); rfl) | with_reducible apply w_no | with_reducible apply w_at | with_reducible apply w_sl | with_reducible apply w_slV | with_reducible apply w_M1 | with_reducible apply w_fmt | with_reducible apply w_js0 | with_reducible apply w_js | with_reducible apply w_iAny | with_reducible apply w_iR1 | with_reducible apply w_iR2 | with_reducible apply w_for | with_reducible apply w_comp | with_reducible apply w_cc | with_reducible apply w_cn | with_reducible apply w_skip | with_reducible apply w_expr | with_reducible apply w_unp | with_reducible apply w_par2 | with_reducible apply w_par3 | with_reducible apply w_emp | with_reducible apply w_setObj | with_reducible apply w_raise | with_reducible apply w_catch | dsimp only [List.set_cons_zero, List.set_cons_succ, wipeD, frz_v, frz_o, frz_d] | ((with_reducible apply x_t); rfl) | ((with_reducible apply x_f); rfl) | ((with_reducible apply xi_int); rfl) | ((with_reducible apply xi_bool); rfl) | ((with_reducible apply xi_str); rfl) | ((with_reducible apply xi_tuple); rfl) | ((with_reducible apply xi_list); rfl) | ((with_reducible apply xi_dict); rfl) | ((with_reducible apply x_chain); rfl) | ((with_reducible apply x_bl); rfl) | ((with_reducible apply x_int); rfl) | ((with_reducible apply x_str); rfl) | ((with_reducible apply x_eq); rfl) | ((with_reducible apply x_intD); rfl) | ((with_reducible apply x_own); rfl) | ((with_reducible apply x_ow); rfl) | ((with_reducible apply x_owD); rfl) | ((with_reducible apply x_ob); rfl) | ((with_reducible apply x_mo); rfl) | ((with_reducible apply x_tp); rfl) | ((with_reducible apply x_intD2); rfl; rfl) | ((with_reducible apply x_le); exact Nat.le_of_ble_eq_true rfl))
      cases hb : betw a 2 5 with
      | false =>
        repeat (first | with_reducible apply w_seq | with_reducible apply w_ret | with_reducible apply w_ifS | with_reducible apply w_set | with_reducible apply w_C | with_reducible apply w_nil | with_reducible apply w_cons | with_reducible apply w_tup | with_reducible apply w_lst | with_reducible apply w_d2 | ((with_reducible apply w_var); rfl) | ((with_reducible apply w_varO); rfl) | with_reducible apply w_call | with_reducible apply w_test | with_reducible apply w_V1 | with_reducible apply w_V2 | with_reducible apply w_W2 | with_reducible apply w_chain | with_reducible apply w_tAnd | with_reducible apply w_tOr | with_reducible apply w_tNot | with_reducible apply w_tTrue | with_reducible apply w_and | with_reducible apply w_or | with_reducible apply w_not | with_reducible apply w_ifE | with_reducible apply w_isi | with_reducible apply w_dN | with_reducible apply w_d1 | ((with_reducible apply w_has); (apply x_has; rfl)) | ((with_reducible apply w_take); rfl) | ((with_reducible apply w_takeO); rfl) | with_reducible apply w_no | with_reducible apply w_at | with_reducible apply w_sl | with_reducible apply w_slV | with_reducible apply w_M1 | with_reducible apply w_fmt | with_reducible apply w_js0 | with_reducible apply w_js | with_reducible apply w_iAny | with_reducible apply w_iR1 | with_reducible apply w_iR2 | with_reducible apply w_for | with_reducible apply w_comp | with_reducible apply w_cc | with_reducible apply w_cn | with_reducible apply w_skip | with_reducible apply w_expr | with_reducible apply w_unp | with_reducible apply w_par2 | with_reducible apply w_par3 | with_reducible apply w_emp | with_reducible apply w_setObj | with_reducible apply w_raise | with_reducible apply w_catch | dsimp only [List.set_cons_zero, List.set_cons_succ, wipeD, frz_v, frz_o, frz_d] | ((with_reducible apply x_t); rfl) | ((with_reducible apply x_f); rfl) | ((with_reducible apply xi_int); rfl) | ((with_reducible apply xi_bool); rfl) | ((with_reducible apply xi_str); rfl) | ((with_reducible apply xi_tuple); rfl) | ((with_reducible apply xi_list); rfl) | ((with_reducible apply xi_dict); rfl) | ((with_reducible apply x_chain); rfl) | ((with_reducible apply x_bl); rfl) | ((with_reducible apply x_int); rfl) | ((with_reducible apply x_str); rfl) | ((with_reducible apply x_eq); rfl) | ((with_reducible apply x_intD); rfl) | ((with_reducible apply x_own); rfl) | ((with_reducible apply x_ow); rfl) | ((with_reducible apply x_owD); rfl) | ((with_reducible apply x_ob); rfl) | ((with_reducible apply x_mo); rfl) | ((with_reducible apply x_tp); rfl) | ((with_reducible apply x_intD2); rfl; rfl) | ((with_reducible apply x_le); exact Nat.le_of_ble_eq_true rfl))
        refine ⟨false, ⟨rfl, rfl⟩, ⟨fun h => absurd h ft, fun ⟨p, ls, e, o⟩ => ?_⟩⟩
        cases e
        have := o.p2; have := o.p5
        simp [betw_int] at hb; omega
      | true =>
        obtain ⟨p, rfl, hp⟩ : ∃ p, a = .int p ∧ 2 ≤ p ∧ p ≤ 5 := by
          cases a <;> simp_all [betw]
        clear hb ha
        have nofb : (∀ ds, b ≠ .tup ds) → (false = true ↔ isNet (.tup [.int p, b])) := fun h => ⟨fun z => absurd z ft, fun ⟨p, ls, e, _⟩ => by cases e; exact absurd rfl (h _)⟩
        cases b <;> first | (cases hv; done) | skip
        case tup ds =>
          have hd : ds.all goodL = true := hv
          repeat (first | with_reducible apply w_seq | with_reducible apply w_ret | with_reducible apply w_ifS | with_reducible apply w_set | with_reducible apply w_C | with_reducible apply w_nil | with_reducible apply w_cons | with_reducible apply w_tup | with_reducible apply w_lst | with_reducible apply w_d2 | ((with_reducible apply w_var); rfl) | ((with_reducible apply w_varO); rfl) | with_reducible apply w_call | with_reducible apply w_test | with_reducible apply w_V1 | with_reducible apply w_V2 | with_reducible apply w_W2 | with_reducible apply w_chain | with_reducible apply w_tAnd | with_reducible apply w_tOr | with_reducible apply w_tNot | with_reducible apply w_tTrue | with_reducible apply w_and | with_reducible apply w_or | with_reducible apply w_not | with_reducible apply w_ifE | with_reducible apply w_isi | with_reducible apply w_dN | with_reducible apply w_d1 | ((with_reducible apply w_has); (apply x_has; rfl)) | ((with_reducible apply w_take); rfl) | ((with_reducible apply w_takeO); rfl) | with_reducible apply w_no | with_reducible apply w_at | with_reducible apply w_sl | with_reducible apply w_slV | with_reducible apply w_M1 | with_reducible apply w_fmt | with_reducible apply w_js0 | with_reducible apply w_js | with_reducible apply w_iAny | with_reducible apply w_iR1 | with_reducible apply w_iR2 | with_reducible apply w_for | with_reducible apply w_comp | with_reducible apply w_cc | with_reducible apply w_cn | with_reducible apply w_skip | with_reducible apply w_expr | with_reducible apply w_unp | with_reducible apply w_par2 | with_reducible apply w_par3 | with_reducible apply w_emp | with_reducible apply w_setObj | with_reducible apply w_raise | with_reducible apply w_catch | dsimp only [List.set_cons_zero, List.set_cons_succ, wipeD, frz_v, frz_o, frz_d] | ((with_reducible apply x_t); rfl) | ((with_reducible apply x_f); rfl) | ((with_reducible apply xi_int); rfl) | ((with_reducible apply xi_bool); rfl) | ((with_reducible apply xi_str); rfl) | ((with_reducible apply xi_tuple); rfl) | ((with_reducible apply xi_list); rfl) | ((with_reducible apply xi_dict); rfl) | ((with_reducible apply x_chain); rfl) | ((with_reducible apply x_bl); rfl) | ((with_reducible apply x_int); rfl) | ((with_reducible apply x_str); rfl) | ((with_reducible apply x_eq); rfl) | ((with_reducible apply x_intD); rfl) | ((with_reducible apply x_own); rfl) | ((with_reducible apply x_ow); rfl) | ((with_reducible apply x_owD); rfl) | ((with_reducible apply x_ob); rfl) | ((with_reducible apply x_mo); rfl) | ((with_reducible apply x_tp); rfl) | ((with_reducible apply x_intD2); rfl; rfl) | ((with_reducible apply x_le); exact Nat.le_of_ble_eq_true rfl))
          by_cases h8 : ds.length ≤ 8
          · have h8' : decide ((8 : Int) < (ds.length : Int)) = false := by simp; omega
            refine x_f h8' ?_
            repeat (first | with_reducible apply w_seq | with_reducible apply w_ret | with_reducible apply w_ifS | with_reducible apply w_set | with_reducible apply w_C | with_reducible apply w_nil | with_reducible apply w_cons | with_reducible apply w_tup | with_reducible apply w_lst | with_reducible apply w_d2 | ((with_reducible apply w_var); rfl) | ((with_reducible apply w_varO); rfl) | with_reducible apply w_call | with_reducible apply w_test | with_reducible apply w_V1 | with_reducible apply w_V2 | with_reducible apply w_W2 | with_reducible apply w_chain | with_reducible apply w_tAnd | with_reducible apply w_tOr | with_reducible apply w_tNot | with_reducible apply w_tTrue | with_reducible apply w_and | with_reducible apply w_or | with_reducible apply w_not | with_reducible apply w_ifE | with_reducible apply w_isi | with_reducible apply w_dN | with_reducible apply w_d1 | ((with_reducible apply w_has); (apply x_has; rfl)) | ((with_reducible apply w_take); rfl) | ((with_reducible apply w_takeO); rfl) | with_reducible apply w_no | with_reducible apply w_at | with_reducible apply w_sl | with_reducible apply w_slV | with_reducible apply w_M1 | with_reducible apply w_fmt | with_reducible apply w_js0 | with_reducible apply w_js | with_reducible apply w_iAny | with_reducible apply w_iR1 | with_reducible apply w_iR2 | with_reducible apply w_for | with_reducible apply w_comp | with_reducible apply w_cc | with_reducible apply w_cn | with_reducible apply w_skip | with_reducible apply w_expr | with_reducible apply w_unp | with_reducible apply w_par2 | with_reducible apply w_par3 | with_reducible apply w_emp | with_reducible apply w_setObj | with_reducible apply w_raise | with_reducible apply w_catch | dsimp only [List.set_cons_zero, List.set_cons_succ, wipeD, frz_v, frz_o, frz_d] | ((with_reducible apply x_t); rfl) | ((with_reducible apply x_f); rfl) | ((with_reducible apply xi_int); rfl) | ((with_reducible apply xi_bool); rfl) | ((with_reducible apply xi_str); rfl) | ((with_reducible apply xi_tuple); rfl) | ((with_reducible apply xi_list); rfl) | ((with_reducible apply xi_dict); rfl) | ((with_reducible apply x_chain); rfl) | ((with_reducible apply x_bl); rfl) | ((with_reducible apply x_int); rfl) | ((with_reducible apply x_str); rfl) | ((with_reducible apply x_eq); rfl) | ((with_reducible apply x_intD); rfl) | ((with_reducible apply x_own); rfl) | ((with_reducible apply x_ow); rfl) | ((with_reducible apply x_owD); rfl) | ((with_reducible apply x_ob); rfl) | ((with_reducible apply x_mo); rfl) | ((with_reducible apply x_tp); rfl) | ((with_reducible apply x_intD2); rfl; rfl) | ((with_reducible apply x_le); exact Nat.le_of_ble_eq_true rfl))
            refine comp_nm (fun _ => true) (fun d => .bl (lineB p d)) (fun d hd' ρ' h1 h2 h3 => ⟨rfl, rfl⟩) (fun d hd' _ ρ' h1 h2 h3 => ?_) (by simp) (by simp) ?_
            · have h0 : ρ'[0]? = some (some (.val (.tup [.int p, .tup ds]))) := h1 0 (by decide)
              obtain ⟨g1, g2⟩ := is_net_line hd hd'
              refine w_call (w_cons (w_has ⟨_, h0⟩ (w_V2 (w_C ⟨.tup [.int p, .tup ds], by unfold view; dsimp only; rw [h0]; rfl, _, rfl, w_cons (w_var h3 (w_nil ?_))⟩))))
              refine Ww.eq (is_line_ok p g1 g2 _) ?_
              exact ⟨rfl, rfl⟩
            · rw [show ds.filter (fun _ => true) = ds from List.filter_eq_self.mpr fun _ _ => rfl]
              repeat (first | with_reducible apply w_seq | with_reducible apply w_ret | with_reducible apply w_ifS | with_reducible apply w_set | with_reducible apply w_C | with_reducible apply w_nil | with_reducible apply w_cons | with_reducible apply w_tup | with_reducible apply w_lst | with_reducible apply w_d2 | ((with_reducible apply w_var); rfl) | ((with_reducible apply w_varO); rfl) | with_reducible apply w_call | with_reducible apply w_test | with_reducible apply w_V1 | with_reducible apply w_V2 | with_reducible apply w_W2 | with_reducible apply w_chain | with_reducible apply w_tAnd | with_reducible apply w_tOr | with_reducible apply w_tNot | with_reducible apply w_tTrue | with_reducible apply w_and | with_reducible apply w_or | with_reducible apply w_not | with_reducible apply w_ifE | with_reducible apply w_isi | with_reducible apply w_dN | with_reducible apply w_d1 | ((with_reducible apply w_has); (apply x_has; rfl)) | ((with_reducible apply w_take); rfl) | ((with_reducible apply w_takeO); rfl) | with_reducible apply w_no | with_reducible apply w_at | with_reducible apply w_sl | with_reducible apply w_slV | with_reducible apply w_M1 | with_reducible apply w_fmt | with_reducible apply w_js0 | with_reducible apply w_js | with_reducible apply w_iAny | with_reducible apply w_iR1 | with_reducible apply w_iR2 | with_reducible apply w_for | with_reducible apply w_comp | with_reducible apply w_cc | with_reducible apply w_cn | with_reducible apply w_skip | with_reducible apply w_expr | with_reducible apply w_unp | with_reducible apply w_par2 | with_reducible apply w_par3 | with_reducible apply w_emp | with_reducible apply w_setObj | with_reducible apply w_raise | with_reducible apply w_catch | dsimp only [List.set_cons_zero, List.set_cons_succ, wipeD, frz_v, frz_o, frz_d] | ((with_reducible apply x_t); rfl) | ((with_reducible apply x_f); rfl) | ((with_reducible apply xi_int); rfl) | ((with_reducible apply xi_bool); rfl) | ((with_reducible apply xi_str); rfl) | ((with_reducible apply xi_tuple); rfl) | ((with_reducible apply xi_list); rfl) | ((with_reducible apply xi_dict); rfl) | ((with_reducible apply x_chain); rfl) | ((with_reducible apply x_bl); rfl) | ((with_reducible apply x_int); rfl) | ((with_reducible apply x_str); rfl) | ((with_reducible apply x_eq); rfl) | ((with_reducible apply x_intD); rfl) | ((with_reducible apply x_own); rfl) | ((with_reducible apply x_ow); rfl) | ((with_reducible apply x_owD); rfl) | ((with_reducible apply x_ob); rfl) | ((with_reducible apply x_mo); rfl) | ((with_reducible apply x_tp); rfl) | ((with_reducible apply x_intD2); rfl; rfl) | ((with_reducible apply x_le); exact Nat.le_of_ble_eq_true rfl))
              refine x_eq (oAll_map (lineB p) ds) ?_
              repeat (first | with_reducible apply w_seq | with_reducible apply w_ret | with_reducible apply w_ifS | with_reducible apply w_set | with_reducible apply w_C | with_reducible apply w_nil | with_reducible apply w_cons | with_reducible apply w_tup | with_reducible apply w_lst | with_reducible apply w_d2 | ((with_reducible apply w_var); rfl) | ((with_reducible apply w_varO); rfl) | with_reducible apply w_call | with_reducible apply w_test | with_reducible apply w_V1 | with_reducible apply w_V2 | with_reducible apply w_W2 | with_reducible apply w_chain | with_reducible apply w_tAnd | with_reducible apply w_tOr | with_reducible apply w_tNot | with_reducible apply w_tTrue | with_reducible apply w_and | with_reducible apply w_or | with_reducible apply w_not | with_reducible apply w_ifE | with_reducible apply w_isi | with_reducible apply w_dN | with_reducible apply w_d1 | ((with_reducible apply w_has); (apply x_has; rfl)) | ((with_reducible apply w_take); rfl) | ((with_reducible apply w_takeO); rfl) | with_reducible apply w_no | with_reducible apply w_at | with_reducible apply w_sl | with_reducible apply w_slV | with_reducible apply w_M1 | with_reducible apply w_fmt | with_reducible apply w_js0 | with_reducible apply w_js | with_reducible apply w_iAny | with_reducible apply w_iR1 | with_reducible apply w_iR2 | with_reducible apply w_for | with_reducible apply w_comp | with_reducible apply w_cc | with_reducible apply w_cn | with_reducible apply w_skip | with_reducible apply w_expr | with_reducible apply w_unp | with_reducible apply w_par2 | with_reducible apply w_par3 | with_reducible apply w_emp | with_reducible apply w_setObj | with_reducible apply w_raise | with_reducible apply w_catch | dsimp only [List.set_cons_zero, List.set_cons_succ, wipeD, frz_v, frz_o, frz_d] | ((with_reducible apply x_t); rfl) | ((with_reducible apply x_f); rfl) | ((with_reducible apply xi_int); rfl) | ((with_reducible apply xi_bool); rfl) | ((with_reducible apply xi_str); rfl) | ((with_reducible apply xi_tuple); rfl) | ((with_reducible apply xi_list); rfl) | ((with_reducible apply xi_dict); rfl) | ((with_reducible apply x_chain); rfl) | ((with_reducible apply x_bl); rfl) | ((with_reducible apply x_int); rfl) | ((with_reducible apply x_str); rfl) | ((with_reducible apply x_eq); rfl) | ((with_reducible apply x_intD); rfl) | ((with_reducible apply x_own); rfl) | ((with_reducible apply x_ow); rfl) | ((with_reducible apply x_owD); rfl) | ((with_reducible apply x_ob); rfl) | ((with_reducible apply x_mo); rfl) | ((with_reducible apply x_tp); rfl) | ((with_reducible apply x_intD2); rfl; rfl) | ((with_reducible apply x_le); exact Nat.le_of_ble_eq_true rfl))
              cases hall : ds.all (lineB p) with
              | false =>
                repeat (first | with_reducible apply w_seq | with_reducible apply w_ret | with_reducible apply w_ifS | with_reducible apply w_set | with_reducible apply w_C | with_reducible apply w_nil | with_reducible apply w_cons | with_reducible apply w_tup | with_reducible apply w_lst | with_reducible apply w_d2 | ((with_reducible apply w_var); rfl) | ((with_reducible apply w_varO); rfl) | with_reducible apply w_call | with_reducible apply w_test | with_reducible apply w_V1 | with_reducible apply w_V2 | with_reducible apply w_W2 | with_reducible apply w_chain | with_reducible apply w_tAnd | with_reducible apply w_tOr | with_reducible apply w_tNot | with_reducible apply w_tTrue | with_reducible apply w_and | with_reducible apply w_or | with_reducible apply w_not | with_reducible apply w_ifE | with_reducible apply w_isi | with_reducible apply w_dN | with_reducible apply w_d1 | ((with_reducible apply w_has); (apply x_has; rfl)) | ((with_reducible apply w_take); rfl) | ((with_reducible apply w_takeO); rfl) | with_reducible apply w_no | with_reducible apply w_at | with_reducible apply w_sl | with_reducible apply w_slV | with_reducible apply w_M1 | with_reducible apply w_fmt | with_reducible apply w_js0 | with_reducible apply w_js | with_reducible apply w_iAny | with_reducible apply w_iR1 | with_reducible apply w_iR2 | with_reducible apply w_for | with_reducible apply w_comp | with_reducible apply w_cc | with_reducible apply w_cn | with_reducible apply w_skip | with_reducible apply w_expr | with_reducible apply w_unp | with_reducible apply w_par2 | with_reducible apply w_par3 | with_reducible apply w_emp | with_reducible apply w_setObj | with_reducible apply w_raise | with_reducible apply w_catch | dsimp only [List.set_cons_zero, List.set_cons_succ, wipeD, frz_v, frz_o, frz_d] | ((with_reducible apply x_t); rfl) | ((with_reducible apply x_f); rfl) | ((with_reducible apply xi_int); rfl) | ((with_reducible apply xi_bool); rfl) | ((with_reducible apply xi_str); rfl) | ((with_reducible apply xi_tuple); rfl) | ((with_reducible apply xi_list); rfl) | ((with_reducible apply xi_dict); rfl) | ((with_reducible apply x_chain); rfl) | ((with_reducible apply x_bl); rfl) | ((with_reducible apply x_int); rfl) | ((with_reducible apply x_str); rfl) | ((with_reducible apply x_eq); rfl) | ((with_reducible apply x_intD); rfl) | ((with_reducible apply x_own); rfl) | ((with_reducible apply x_ow); rfl) | ((with_reducible apply x_owD); rfl) | ((with_reducible apply x_ob); rfl) | ((with_reducible apply x_mo); rfl) | ((with_reducible apply x_tp); rfl) | ((with_reducible apply x_intD2); rfl; rfl) | ((with_reducible apply x_le); exact Nat.le_of_ble_eq_true rfl))
                refine ⟨false, ⟨rfl, rfl⟩, ⟨fun h => absurd h ft, fun ⟨p, ls, e, o⟩ => ?_⟩⟩
                cases e
                have : (ls.map lnD).all (lineB p) = true := by
                  rw [List.all_map, List.all_eq_true]
                  exact fun l hl => lineB_of (o.lines l hl)
                rw [this] at hall; cases hall
              | true =>
                obtain ⟨ls, rfl, hls⟩ := lines_of hall
                have hl8 : ls.length ≤ 8 := by simpa using h8
                repeat (first | with_reducible apply w_seq | with_reducible apply w_ret | with_reducible apply w_ifS | with_reducible apply w_set | with_reducible apply w_C | with_reducible apply w_nil | with_reducible apply w_cons | with_reducible apply w_tup | with_reducible apply w_lst | with_reducible apply w_d2 | ((with_reducible apply w_var); rfl) | ((with_reducible apply w_varO); rfl) | with_reducible apply w_call | with_reducible apply w_test | with_reducible apply w_V1 | with_reducible apply w_V2 | with_reducible apply w_W2 | with_reducible apply w_chain | with_reducible apply w_tAnd | with_reducible apply w_tOr | with_reducible apply w_tNot | with_reducible apply w_tTrue | with_reducible apply w_and | with_reducible apply w_or | with_reducible apply w_not | with_reducible apply w_ifE | with_reducible apply w_isi | with_reducible apply w_dN | with_reducible apply w_d1 | ((with_reducible apply w_has); (apply x_has; rfl)) | ((with_reducible apply w_take); rfl) | ((with_reducible apply w_takeO); rfl) | with_reducible apply w_no | with_reducible apply w_at | with_reducible apply w_sl | with_reducible apply w_slV | with_reducible apply w_M1 | with_reducible apply w_fmt | with_reducible apply w_js0 | with_reducible apply w_js | with_reducible apply w_iAny | with_reducible apply w_iR1 | with_reducible apply w_iR2 | with_reducible apply w_for | with_reducible apply w_comp | with_reducible apply w_cc | with_reducible apply w_cn | with_reducible apply w_skip | with_reducible apply w_expr | with_reducible apply w_unp | with_reducible apply w_par2 | with_reducible apply w_par3 | with_reducible apply w_emp | with_reducible apply w_setObj | with_reducible apply w_raise | with_reducible apply w_catch | dsimp only [List.set_cons_zero, List.set_cons_succ, wipeD, frz_v, frz_o, frz_d] | ((with_reducible apply x_t); rfl) | ((with_reducible apply x_f); rfl) | ((with_reducible apply xi_int); rfl) | ((with_reducible apply xi_bool); rfl) | ((with_reducible apply xi_str); rfl) | ((with_reducible apply xi_tuple); rfl) | ((with_reducible apply xi_list); rfl) | ((with_reducible apply xi_dict); rfl) | ((with_reducible apply x_chain); rfl) | ((with_reducible apply x_bl); rfl) | ((with_reducible apply x_int); rfl) | ((with_reducible apply x_str); rfl) | ((with_reducible apply x_eq); rfl) | ((with_reducible apply x_intD); rfl) | ((with_reducible apply x_own); rfl) | ((with_reducible apply x_ow); rfl) | ((with_reducible apply x_owD); rfl) | ((with_reducible apply x_ob); rfl) | ((with_reducible apply x_mo); rfl) | ((with_reducible apply x_tp); rfl) | ((with_reducible apply x_intD2); rfl; rfl) | ((with_reducible apply x_le); exact Nat.le_of_ble_eq_true rfl))
                refine ⟨by rw [List.length_map]; omega, ?_⟩
                refine comp_nm (fun _ => true) (fun d => match d with
                  | .int k => .bl (cmpAt ls k.toNat)
                  | _ => .non) (fun d hd' ρ' h1 h2 h3 => ⟨rfl, rfl⟩) (fun d hd' _ ρ' h1 h2 h3 => ?_) (by simp) (by simp) ?_
                · obtain ⟨k, hk⟩ := List.getElem?_of_mem hd'
                  obtain ⟨hk1, rfl⟩ := rngD_at hk
                  obtain ⟨x0, x1, x2, rfl⟩ := len3 h2
                  have e0 : x0 = some (.val (.tup [.int p, .tup (ls.map lnD)])) := by have := h1 0 (by simp); simpa using this
                  have e1 : x1 = some (.val (.int (0 + (k : Nat)))) := by simpa using h3
                  subst e0 e1
                  rw [List.length_map] at hk1
                  have hka : k < ls.length := by omega
                  have hkb : k + 1 < ls.length := by omega
                  have ea : (ls.map lnD)[k]? = some (lnD ls[k]) := by rw [List.getElem?_map, List.getElem?_eq_getElem hka]; rfl
                  have eb : (ls.map lnD)[k + 1]? = some (lnD ls[k + 1]) := by rw [List.getElem?_map, List.getElem?_eq_getElem hkb]; rfl
                  repeat (first | ((with_reducible apply x_eq); exact oIx_at (k := k) (by omega) ea) | ((with_reducible apply x_eq); exact oIx_at (k := k + 1) (by omega) eb) | with_reducible apply w_seq | with_reducible apply w_ret | with_reducible apply w_ifS | with_reducible apply w_set | with_reducible apply w_C | with_reducible apply w_nil | with_reducible apply w_cons | with_reducible apply w_tup | with_reducible apply w_lst | with_reducible apply w_d2 | ((with_reducible apply w_var); rfl) | ((with_reducible apply w_varO); rfl) | with_reducible apply w_call | with_reducible apply w_test | with_reducible apply w_V1 | with_reducible apply w_V2 | with_reducible apply w_W2 | with_reducible apply w_chain | with_reducible apply w_tAnd | with_reducible apply w_tOr | with_reducible apply w_tNot | with_reducible apply w_tTrue | with_reducible apply w_and | with_reducible apply w_or | with_reducible apply w_not | with_reducible apply w_ifE | with_reducible apply w_isi | with_reducible apply w_dN | with_reducible apply w_d1 | ((with_reducible apply w_has); (apply x_has; rfl)) | ((with_reducible apply w_take); rfl) | ((with_reducible apply w_takeO); rfl) | with_reducible apply w_no | with_reducible apply w_at | with_reducible apply w_sl | with_reducible apply w_slV | with_reducible apply w_M1 | with_reducible apply w_fmt | with_reducible apply w_js0 | with_reducible apply w_js | with_reducible apply w_iAny | with_reducible apply w_iR1 | with_reducible apply w_iR2 | with_reducible apply w_for | with_reducible apply w_comp | with_reducible apply w_cc | with_reducible apply w_cn | with_reducible apply w_skip | with_reducible apply w_expr | with_reducible apply w_unp | with_reducible apply w_par2 | with_reducible apply w_par3 | with_reducible apply w_emp | with_reducible apply w_setObj | with_reducible apply w_raise | with_reducible apply w_catch | dsimp only [List.set_cons_zero, List.set_cons_succ, wipeD, frz_v, frz_o, frz_d] | ((with_reducible apply x_t); rfl) | ((with_reducible apply x_f); rfl) | ((with_reducible apply xi_int); rfl) | ((with_reducible apply xi_bool); rfl) | ((with_reducible apply xi_str); rfl) | ((with_reducible apply xi_tuple); rfl) | ((with_reducible apply xi_list); rfl) | ((with_reducible apply xi_dict); rfl) | ((with_reducible apply x_chain); rfl) | ((with_reducible apply x_bl); rfl) | ((with_reducible apply x_int); rfl) | ((with_reducible apply x_str); rfl) | ((with_reducible apply x_eq); rfl) | ((with_reducible apply x_intD); rfl) | ((with_reducible apply x_own); rfl) | ((with_reducible apply x_ow); rfl) | ((with_reducible apply x_owD); rfl) | ((with_reducible apply x_ob); rfl) | ((with_reducible apply x_mo); rfl) | ((with_reducible apply x_tp); rfl) | ((with_reducible apply x_intD2); rfl; rfl) | ((with_reducible apply x_le); exact Nat.le_of_ble_eq_true rfl))
                  refine ⟨?_, rfl⟩
                  show D.bl _ = D.bl (cmpAt ls (0 + (k : Int)).toNat)
                  have ek : (0 + (k : Int)).toNat = k := by omega
                  rw [ek]
                  unfold cmpAt
                  rw [List.getElem?_eq_getElem hka, List.getElem?_eq_getElem hkb]
                  rfl
                · rw [show ∀ l : List D, l.filter (fun _ => true) = l from fun l => List.filter_eq_self.mpr fun _ _ => rfl]
                  have em : (rngD 0 (((ls.map lnD).length : Int) - 1).toNat).map (fun d => match d with
                      | .int k => D.bl (cmpAt ls k.toNat)
                      | _ => D.non) = (List.range (ls.length - 1)).map fun k => D.bl (cmpAt ls k) := by
                    have e1 : (((ls.map lnD).length : Int) - 1).toNat = ls.length - 1 := by rw [List.length_map]; omega
                    rw [e1]
                    unfold rngD
                    rw [List.map_map]
                    refine List.map_congr_left fun k _ => ?_
                    show D.bl (cmpAt ls (0 + (k : Int)).toNat) = _
                    have ek : (0 + (k : Int)).toNat = k := by omega
                    rw [ek]
                  rw [em]
                  repeat (first | with_reducible apply w_seq | with_reducible apply w_ret | with_reducible apply w_ifS | with_reducible apply w_set | with_reducible apply w_C | with_reducible apply w_nil | with_reducible apply w_cons | with_reducible apply w_tup | with_reducible apply w_lst | with_reducible apply w_d2 | ((with_reducible apply w_var); rfl) | ((with_reducible apply w_varO); rfl) | with_reducible apply w_call | with_reducible apply w_test | with_reducible apply w_V1 | with_reducible apply w_V2 | with_reducible apply w_W2 | with_reducible apply w_chain | with_reducible apply w_tAnd | with_reducible apply w_tOr | with_reducible apply w_tNot | with_reducible apply w_tTrue | with_reducible apply w_and | with_reducible apply w_or | with_reducible apply w_not | with_reducible apply w_ifE | with_reducible apply w_isi | with_reducible apply w_dN | with_reducible apply w_d1 | ((with_reducible apply w_has); (apply x_has; rfl)) | ((with_reducible apply w_take); rfl) | ((with_reducible apply w_takeO); rfl) | with_reducible apply w_no | with_reducible apply w_at | with_reducible apply w_sl | with_reducible apply w_slV | with_reducible apply w_M1 | with_reducible apply w_fmt | with_reducible apply w_js0 | with_reducible apply w_js | with_reducible apply w_iAny | with_reducible apply w_iR1 | with_reducible apply w_iR2 | with_reducible apply w_for | with_reducible apply w_comp | with_reducible apply w_cc | with_reducible apply w_cn | with_reducible apply w_skip | with_reducible apply w_expr | with_reducible apply w_unp | with_reducible apply w_par2 | with_reducible apply w_par3 | with_reducible apply w_emp | with_reducible apply w_setObj | with_reducible apply w_raise | with_reducible apply w_catch | dsimp only [List.set_cons_zero, List.set_cons_succ, wipeD, frz_v, frz_o, frz_d] | ((with_reducible apply x_t); rfl) | ((with_reducible apply x_f); rfl) | ((with_reducible apply xi_int); rfl) | ((with_reducible apply xi_bool); rfl) | ((with_reducible apply xi_str); rfl) | ((with_reducible apply xi_tuple); rfl) | ((with_reducible apply xi_list); rfl) | ((with_reducible apply xi_dict); rfl) | ((with_reducible apply x_chain); rfl) | ((with_reducible apply x_bl); rfl) | ((with_reducible apply x_int); rfl) | ((with_reducible apply x_str); rfl) | ((with_reducible apply x_eq); rfl) | ((with_reducible apply x_intD); rfl) | ((with_reducible apply x_own); rfl) | ((with_reducible apply x_ow); rfl) | ((with_reducible apply x_owD); rfl) | ((with_reducible apply x_ob); rfl) | ((with_reducible apply x_mo); rfl) | ((with_reducible apply x_tp); rfl) | ((with_reducible apply x_intD2); rfl; rfl) | ((with_reducible apply x_le); exact Nat.le_of_ble_eq_true rfl))
                  refine x_eq (oAll_map (cmpAt ls) _) ?_
                  repeat (first | with_reducible apply w_seq | with_reducible apply w_ret | with_reducible apply w_ifS | with_reducible apply w_set | with_reducible apply w_C | with_reducible apply w_nil | with_reducible apply w_cons | with_reducible apply w_tup | with_reducible apply w_lst | with_reducible apply w_d2 | ((with_reducible apply w_var); rfl) | ((with_reducible apply w_varO); rfl) | with_reducible apply w_call | with_reducible apply w_test | with_reducible apply w_V1 | with_reducible apply w_V2 | with_reducible apply w_W2 | with_reducible apply w_chain | with_reducible apply w_tAnd | with_reducible apply w_tOr | with_reducible apply w_tNot | with_reducible apply w_tTrue | with_reducible apply w_and | with_reducible apply w_or | with_reducible apply w_not | with_reducible apply w_ifE | with_reducible apply w_isi | with_reducible apply w_dN | with_reducible apply w_d1 | ((with_reducible apply w_has); (apply x_has; rfl)) | ((with_reducible apply w_take); rfl) | ((with_reducible apply w_takeO); rfl) | with_reducible apply w_no | with_reducible apply w_at | with_reducible apply w_sl | with_reducible apply w_slV | with_reducible apply w_M1 | with_reducible apply w_fmt | with_reducible apply w_js0 | with_reducible apply w_js | with_reducible apply w_iAny | with_reducible apply w_iR1 | with_reducible apply w_iR2 | with_reducible apply w_for | with_reducible apply w_comp | with_reducible apply w_cc | with_reducible apply w_cn | with_reducible apply w_skip | with_reducible apply w_expr | with_reducible apply w_unp | with_reducible apply w_par2 | with_reducible apply w_par3 | with_reducible apply w_emp | with_reducible apply w_setObj | with_reducible apply w_raise | with_reducible apply w_catch | dsimp only [List.set_cons_zero, List.set_cons_succ, wipeD, frz_v, frz_o, frz_d] | ((with_reducible apply x_t); rfl) | ((with_reducible apply x_f); rfl) | ((with_reducible apply xi_int); rfl) | ((with_reducible apply xi_bool); rfl) | ((with_reducible apply xi_str); rfl) | ((with_reducible apply xi_tuple); rfl) | ((with_reducible apply xi_list); rfl) | ((with_reducible apply xi_dict); rfl) | ((with_reducible apply x_chain); rfl) | ((with_reducible apply x_bl); rfl) | ((with_reducible apply x_int); rfl) | ((with_reducible apply x_str); rfl) | ((with_reducible apply x_eq); rfl) | ((with_reducible apply x_intD); rfl) | ((with_reducible apply x_own); rfl) | ((with_reducible apply x_ow); rfl) | ((with_reducible apply x_owD); rfl) | ((with_reducible apply x_ob); rfl) | ((with_reducible apply x_mo); rfl) | ((with_reducible apply x_tp); rfl) | ((with_reducible apply x_intD2); rfl; rfl) | ((with_reducible apply x_le); exact Nat.le_of_ble_eq_true rfl))
                  cases hord : (List.range (ls.length - 1)).all (cmpAt ls) with
                  | false =>
                    repeat (first | with_reducible apply w_seq | with_reducible apply w_ret | with_reducible apply w_ifS | with_reducible apply w_set | with_reducible apply w_C | with_reducible apply w_nil | with_reducible apply w_cons | with_reducible apply w_tup | with_reducible apply w_lst | with_reducible apply w_d2 | ((with_reducible apply w_var); rfl) | ((with_reducible apply w_varO); rfl) | with_reducible apply w_call | with_reducible apply w_test | with_reducible apply w_V1 | with_reducible apply w_V2 | with_reducible apply w_W2 | with_reducible apply w_chain | with_reducible apply w_tAnd | with_reducible apply w_tOr | with_reducible apply w_tNot | with_reducible apply w_tTrue | with_reducible apply w_and | with_reducible apply w_or | with_reducible apply w_not | with_reducible apply w_ifE | with_reducible apply w_isi | with_reducible apply w_dN | with_reducible apply w_d1 | ((with_reducible apply w_has); (apply x_has; rfl)) | ((with_reducible apply w_take); rfl) | ((with_reducible apply w_takeO); rfl) | with_reducible apply w_no | with_reducible apply w_at | with_reducible apply w_sl | with_reducible apply w_slV | with_reducible apply w_M1 | with_reducible apply w_fmt | with_reducible apply w_js0 | with_reducible apply w_js | with_reducible apply w_iAny | with_reducible apply w_iR1 | with_reducible apply w_iR2 | with_reducible apply w_for | with_reducible apply w_comp | with_reducible apply w_cc | with_reducible apply w_cn | with_reducible apply w_skip | with_reducible apply w_expr | with_reducible apply w_unp | with_reducible apply w_par2 | with_reducible apply w_par3 | with_reducible apply w_emp | with_reducible apply w_setObj | with_reducible apply w_raise | with_reducible apply w_catch | dsimp only [List.set_cons_zero, List.set_cons_succ, wipeD, frz_v, frz_o, frz_d] | ((with_reducible apply x_t); rfl) | ((with_reducible apply x_f); rfl) | ((with_reducible apply xi_int); rfl) | ((with_reducible apply xi_bool); rfl) | ((with_reducible apply xi_str); rfl) | ((with_reducible apply xi_tuple); rfl) | ((with_reducible apply xi_list); rfl) | ((with_reducible apply xi_dict); rfl) | ((with_reducible apply x_chain); rfl) | ((with_reducible apply x_bl); rfl) | ((with_reducible apply x_int); rfl) | ((with_reducible apply x_str); rfl) | ((with_reducible apply x_eq); rfl) | ((with_reducible apply x_intD); rfl) | ((with_reducible apply x_own); rfl) | ((with_reducible apply x_ow); rfl) | ((with_reducible apply x_owD); rfl) | ((with_reducible apply x_ob); rfl) | ((with_reducible apply x_mo); rfl) | ((with_reducible apply x_tp); rfl) | ((with_reducible apply x_intD2); rfl; rfl) | ((with_reducible apply x_le); exact Nat.le_of_ble_eq_true rfl))
                    refine ⟨false, ⟨rfl, rfl⟩, ⟨fun h => absurd h ft, fun ⟨p', ls', e, o⟩ => ?_⟩⟩
                    have eD : D.tup [D.int p, D.tup (ls.map lnD)] = D.tup [D.int p', D.tup (ls'.map lnD)] := e
                    injection eD with eD; injection eD with e1 e2; injection e2 with e2 _; injection e2 with e2
                    have els : ls = ls' := lnD_inj e2
                    subst els
                    have := o.ord
                    unfold ordB at this
                    rw [this] at hord; cases hord
                  | true =>
                    repeat (first | with_reducible apply w_seq | with_reducible apply w_ret | with_reducible apply w_ifS | with_reducible apply w_set | with_reducible apply w_C | with_reducible apply w_nil | with_reducible apply w_cons | with_reducible apply w_tup | with_reducible apply w_lst | with_reducible apply w_d2 | ((with_reducible apply w_var); rfl) | ((with_reducible apply w_varO); rfl) | with_reducible apply w_call | with_reducible apply w_test | with_reducible apply w_V1 | with_reducible apply w_V2 | with_reducible apply w_W2 | with_reducible apply w_chain | with_reducible apply w_tAnd | with_reducible apply w_tOr | with_reducible apply w_tNot | with_reducible apply w_tTrue | with_reducible apply w_and | with_reducible apply w_or | with_reducible apply w_not | with_reducible apply w_ifE | with_reducible apply w_isi | with_reducible apply w_dN | with_reducible apply w_d1 | ((with_reducible apply w_has); (apply x_has; rfl)) | ((with_reducible apply w_take); rfl) | ((with_reducible apply w_takeO); rfl) | with_reducible apply w_no | with_reducible apply w_at | with_reducible apply w_sl | with_reducible apply w_slV | with_reducible apply w_M1 | with_reducible apply w_fmt | with_reducible apply w_js0 | with_reducible apply w_js | with_reducible apply w_iAny | with_reducible apply w_iR1 | with_reducible apply w_iR2 | with_reducible apply w_for | with_reducible apply w_comp | with_reducible apply w_cc | with_reducible apply w_cn | with_reducible apply w_skip | with_reducible apply w_expr | with_reducible apply w_unp | with_reducible apply w_par2 | with_reducible apply w_par3 | with_reducible apply w_emp | with_reducible apply w_setObj | with_reducible apply w_raise | with_reducible apply w_catch | dsimp only [List.set_cons_zero, List.set_cons_succ, wipeD, frz_v, frz_o, frz_d] | ((with_reducible apply x_t); rfl) | ((with_reducible apply x_f); rfl) | ((with_reducible apply xi_int); rfl) | ((with_reducible apply xi_bool); rfl) | ((with_reducible apply xi_str); rfl) | ((with_reducible apply xi_tuple); rfl) | ((with_reducible apply xi_list); rfl) | ((with_reducible apply xi_dict); rfl) | ((with_reducible apply x_chain); rfl) | ((with_reducible apply x_bl); rfl) | ((with_reducible apply x_int); rfl) | ((with_reducible apply x_str); rfl) | ((with_reducible apply x_eq); rfl) | ((with_reducible apply x_intD); rfl) | ((with_reducible apply x_own); rfl) | ((with_reducible apply x_ow); rfl) | ((with_reducible apply x_owD); rfl) | ((with_reducible apply x_ob); rfl) | ((with_reducible apply x_mo); rfl) | ((with_reducible apply x_tp); rfl) | ((with_reducible apply x_intD2); rfl; rfl) | ((with_reducible apply x_le); exact Nat.le_of_ble_eq_true rfl))
                    refine Ww.eq (is_joined_ok (by omega) hl8 _) ?_
                    refine ⟨joinedB p ls, ⟨rfl, rfl⟩, ⟨fun h => ⟨p, ls, rfl, hp.1, hp.2, hl8, hls, hord, h⟩, fun ⟨p', ls', e, o⟩ => ?_⟩⟩
                    have eD : D.tup [D.int p, D.tup (ls.map lnD)] = D.tup [D.int p', D.tup (ls'.map lnD)] := e
                    injection eD with eD; injection eD with e1 e2; injection e2 with e2 _; injection e2 with e2
                    have els : ls = ls' := lnD_inj e2
                    subst els
                    injection e1 with e1
                    rw [e1]; exact o.join
          · have h8' : decide ((8 : Int) < (ds.length : Int)) = true := by simp; omega
            refine x_t h8' ?_
            repeat (first | with_reducible apply w_seq | with_reducible apply w_ret | with_reducible apply w_ifS | with_reducible apply w_set | with_reducible apply w_C | with_reducible apply w_nil | with_reducible apply w_cons | with_reducible apply w_tup | with_reducible apply w_lst | with_reducible apply w_d2 | ((with_reducible apply w_var); rfl) | ((with_reducible apply w_varO); rfl) | with_reducible apply w_call | with_reducible apply w_test | with_reducible apply w_V1 | with_reducible apply w_V2 | with_reducible apply w_W2 | with_reducible apply w_chain | with_reducible apply w_tAnd | with_reducible apply w_tOr | with_reducible apply w_tNot | with_reducible apply w_tTrue | with_reducible apply w_and | with_reducible apply w_or | with_reducible apply w_not | with_reducible apply w_ifE | with_reducible apply w_isi | with_reducible apply w_dN | with_reducible apply w_d1 | ((with_reducible apply w_has); (apply x_has; rfl)) | ((with_reducible apply w_take); rfl) | ((with_reducible apply w_takeO); rfl) | with_reducible apply w_no | with_reducible apply w_at | with_reducible apply w_sl | with_reducible apply w_slV | with_reducible apply w_M1 | with_reducible apply w_fmt | with_reducible apply w_js0 | with_reducible apply w_js | with_reducible apply w_iAny | with_reducible apply w_iR1 | with_reducible apply w_iR2 | with_reducible apply w_for | with_reducible apply w_comp | with_reducible apply w_cc | with_reducible apply w_cn | with_reducible apply w_skip | with_reducible apply w_expr | with_reducible apply w_unp | with_reducible apply w_par2 | with_reducible apply w_par3 | with_reducible apply w_emp | with_reducible apply w_setObj | with_reducible apply w_raise | with_reducible apply w_catch | dsimp only [List.set_cons_zero, List.set_cons_succ, wipeD, frz_v, frz_o, frz_d] | ((with_reducible apply x_t); rfl) | ((with_reducible apply x_f); rfl) | ((with_reducible apply xi_int); rfl) | ((with_reducible apply xi_bool); rfl) | ((with_reducible apply xi_str); rfl) | ((with_reducible apply xi_tuple); rfl) | ((with_reducible apply xi_list); rfl) | ((with_reducible apply xi_dict); rfl) | ((with_reducible apply x_chain); rfl) | ((with_reducible apply x_bl); rfl) | ((with_reducible apply x_int); rfl) | ((with_reducible apply x_str); rfl) | ((with_reducible apply x_eq); rfl) | ((with_reducible apply x_intD); rfl) | ((with_reducible apply x_own); rfl) | ((with_reducible apply x_ow); rfl) | ((with_reducible apply x_owD); rfl) | ((with_reducible apply x_ob); rfl) | ((with_reducible apply x_mo); rfl) | ((with_reducible apply x_tp); rfl) | ((with_reducible apply x_intD2); rfl; rfl) | ((with_reducible apply x_le); exact Nat.le_of_ble_eq_true rfl))
            refine ⟨false, ⟨rfl, rfl⟩, ⟨fun h => absurd h ft, fun ⟨p, ls, e, o⟩ => ?_⟩⟩
            cases e
            have := o.len
            simp at h8; omega
        all_goals (repeat (first | with_reducible apply w_seq | with_reducible apply w_ret | with_reducible apply w_ifS | with_reducible apply w_set | with_reducible apply w_C | with_reducible apply w_nil | with_reducible apply w_cons | with_reducible apply w_tup | with_reducible apply w_lst | with_reducible apply w_d2 | ((with_reducible apply w_var); rfl) | ((with_reducible apply w_varO); rfl) | with_reducible apply w_call | with_reducible apply w_test | with_reducible apply w_V1 | with_reducible apply w_V2 | with_reducible apply w_W2 | with_reducible apply w_chain | with_reducible apply w_tAnd | with_reducible apply w_tOr | with_reducible apply w_tNot | with_reducible apply w_tTrue | with_reducible apply w_and | with_reducible apply w_or | with_reducible apply w_not | with_reducible apply w_ifE | with_reducible apply w_isi | with_reducible apply w_dN | with_reducible apply w_d1 | ((with_reducible apply w_has); (apply x_has; rfl)) | ((with_reducible apply w_take); rfl) | ((with_reducible apply w_takeO); rfl) | with_reducible apply w_no | with_reducible apply w_at | with_reducible apply w_sl | with_reducible apply w_slV | with_reducible apply w_M1 | with_reducible apply w_fmt | with_reducible apply w_js0 | with_reducible apply w_js | with_reducible apply w_iAny | with_reducible apply w_iR1 | with_reducible apply w_iR2 | with_reducible apply w_for | with_reducible apply w_comp | with_reducible apply w_cc | with_reducible apply w_cn | with_reducible apply w_skip | with_reducible apply w_expr | with_reducible apply w_unp | with_reducible apply w_par2 | with_reducible apply w_par3 | with_reducible apply w_emp | with_reducible apply w_setObj | with_reducible apply w_raise | with_reducible apply w_catch | dsimp only [List.set_cons_zero, List.set_cons_succ, wipeD, frz_v, frz_o, frz_d] | ((with_reducible apply x_t); rfl) | ((with_reducible apply x_f); rfl) | ((with_reducible apply xi_int); rfl) | ((with_reducible apply xi_bool); rfl) | ((with_reducible apply xi_str); rfl) | ((with_reducible apply xi_tuple); rfl) | ((with_reducible apply xi_list); rfl) | ((with_reducible apply xi_dict); rfl) | ((with_reducible apply x_chain); rfl) | ((with_reducible apply x_bl); rfl) | ((with_reducible apply x_int); rfl) | ((with_reducible apply x_str); rfl) | ((with_reducible apply x_eq); rfl) | ((with_reducible apply x_intD); rfl) | ((with_reducible apply x_own); rfl) | ((with_reducible apply x_ow); rfl) | ((with_reducible apply x_owD); rfl) | ((with_reducible apply x_ob); rfl) | ((with_reducible apply x_mo); rfl) | ((with_reducible apply x_tp); rfl) | ((with_reducible apply x_intD2); rfl; rfl) | ((with_reducible apply x_le); exact Nat.le_of_ble_eq_true rfl)))
        all_goals exact ⟨false, ⟨rfl, rfl⟩, nofb (fun ds e => by cases e)⟩
    | a :: b :: c :: r, _ => repeat (first | with_reducible apply w_seq | with_reducible apply w_ret | with_reducible apply w_ifS | with_reducible apply w_set | with_reducible apply w_C | with_reducible apply w_nil | with_reducible apply w_cons | with_reducible apply w_tup | with_reducible apply w_lst | with_reducible apply w_d2 | ((with_reducible apply w_var); rfl) | ((with_reducible apply w_varO); rfl) | with_reducible apply w_call | with_reducible apply w_test | with_reducible apply w_V1 | with_reducible apply w_V2 | with_reducible apply w_W2 | with_reducible apply w_chain | with_reducible apply w_tAnd | with_reducible apply w_tOr | with_reducible apply w_tNot | with_reducible apply w_tTrue | with_reducible apply w_and | with_reducible apply w_or | with_reducible apply w_not | with_reducible apply w_ifE | with_reducible apply w_isi | with_reducible apply w_dN | with_reducible apply w_d1 | ((with_reducible apply w_has); (apply x_has; rfl)) | ((with_reducible apply w_take); rfl) | ((with_reducible apply w_takeO); rfl) | with_reducible apply w_no | with_reducible apply w_at | with_reducible apply w_sl | with_reducible apply w_slV | with_reducible apply w_M1 | with_reducible apply w_fmt | with_reducible apply w_js0 | with_reducible apply w_js | with_reducible apply w_iAny | with_reducible apply w_iR1 | with_reducible apply w_iR2 | with_reducible apply w_for | with_reducible apply w_comp | with_reducible apply w_cc | with_reducible apply w_cn | with_reducible apply w_skip | with_reducible apply w_expr | with_reducible apply w_unp | with_reducible apply w_par2 | with_reducible apply w_par3 | with_reducible apply w_emp | with_reducible apply w_setObj | with_reducible apply w_raise | with_reducible apply w_catch | dsimp only [List.set_cons_zero, List.set_cons_succ, wipeD, frz_v, frz_o, frz_d] | ((with_reducible apply x_t); rfl) | ((with_reducible apply x_f); rfl) | ((with_reducible apply xi_int); rfl) | ((with_reducible apply xi_bool); rfl) | ((with_reducible apply xi_str); rfl) | ((with_reducible apply xi_tuple); rfl) | ((with_reducible apply xi_list); rfl) | ((with_reducible apply xi_dict); rfl) | ((with_reducible apply x_chain); rfl) | ((with_reducible apply x_bl); rfl) | ((with_reducible apply x_int); rfl) | ((with_reducible apply x_str); rfl) | ((with_reducible apply x_eq); rfl) | ((with_reducible apply x_intD); rfl) | ((with_reducible apply x_own); rfl) | ((with_reducible apply x_ow); rfl) | ((with_reducible apply x_owD); rfl) | ((with_reducible apply x_ob); rfl) | ((with_reducible apply x_mo); rfl) | ((with_reducible apply x_tp); rfl) | ((with_reducible apply x_intD2); rfl; rfl) | ((with_reducible apply x_le); exact Nat.le_of_ble_eq_true rfl)); exact ⟨false, ⟨rfl, rfl⟩, nof _ (fun a b e => by cases e)⟩
  all_goals (repeat (first | with_reducible apply w_seq | with_reducible apply w_ret | with_reducible apply w_ifS | with_reducible apply w_set | with_reducible apply w_C | with_reducible apply w_nil | with_reducible apply w_cons | with_reducible apply w_tup | with_reducible apply w_lst | with_reducible apply w_d2 | ((with_reducible apply w_var); rfl) | ((with_reducible apply w_varO); rfl) | with_reducible apply w_call | with_reducible apply w_test | with_reducible apply w_V1 | with_reducible apply w_V2 | with_reducible apply w_W2 | with_reducible apply w_chain | with_reducible apply w_tAnd | with_reducible apply w_tOr | with_reducible apply w_tNot | with_reducible apply w_tTrue | with_reducible apply w_and | with_reducible apply w_or | with_reducible apply w_not | with_reducible apply w_ifE | with_reducible apply w_isi | with_reducible apply w_dN | with_reducible apply w_d1 | ((with_reducible apply w_has); (apply x_has; rfl)) | ((with_reducible apply w_take); rfl) | ((with_reducible apply w_takeO); rfl) | with_reducible apply w_no | with_reducible apply w_at | with_reducible apply w_sl | with_reducible apply w_slV | with_reducible apply w_M1 | with_reducible apply w_fmt | with_reducible apply w_js0 | with_reducible apply w_js | with_reducible apply w_iAny | with_reducible apply w_iR1 | with_reducible apply w_iR2 | with_reducible apply w_for | with_reducible apply w_comp | with_reducible apply w_cc | with_reducible apply w_cn | with_reducible apply w_skip | with_reducible apply w_expr | with_reducible apply w_unp | with_reducible apply w_par2 | with_reducible apply w_par3 | with_reducible apply w_emp | with_reducible apply w_setObj | with_reducible apply w_raise | with_reducible apply w_catch | dsimp only [List.set_cons_zero, List.set_cons_succ, wipeD, frz_v, frz_o, frz_d] | ((with_reducible apply x_t); rfl) | ((with_reducible apply x_f); rfl) | ((with_reducible apply xi_int); rfl) | ((with_reducible apply xi_bool); rfl) | ((with_reducible apply xi_str); rfl) | ((with_reducible apply xi_tuple); rfl) | ((with_reducible apply xi_list); rfl) | ((with_reducible apply xi_dict); rfl) | ((with_reducible apply x_chain); rfl) | ((with_reducible apply x_bl); rfl) | ((with_reducible apply x_int); rfl) | ((with_reducible apply x_str); rfl) | ((with_reducible apply x_eq); rfl) | ((with_reducible apply x_intD); rfl) | ((with_reducible apply x_own); rfl) | ((with_reducible apply x_ow); rfl) | ((with_reducible apply x_owD); rfl) | ((with_reducible apply x_ob); rfl) | ((with_reducible apply x_mo); rfl) | ((with_reducible apply x_tp); rfl) | ((with_reducible apply x_intD2); rfl; rfl) | ((with_reducible apply x_le); exact Nat.le_of_ble_eq_true rfl)))
  all_goals exact ⟨false, ⟨rfl, rfl⟩, nof _ (fun a b e => by cases e)⟩
end T82
/-! Plain part 3: texts as lists of signs. -/
namespace DL
open PySem PySem.StrLaws
open PySem.Builtin.Str (occurrences strSub subAt)
def sT (l : List Nat) : Str := ⟨l.toArray⟩
theorem sT_tl (l : List Nat) : (sT l).cps.toList = l := rfl
theorem sT_of (s : Str) : sT s.cps.toList = s := by cases s; rfl
theorem sT_eq {s : Str} {l : List Nat} (h : s.cps.toList = l) : s = sT l := by rw [← h, sT_of]
theorem sT_inj {a b : List Nat} (h : sT a = sT b) : a = b := congrArg (fun s : Str => s.cps.toList) h
theorem sT_app (a b : List Nat) : sT a ++ sT b = sT (a ++ b) := by
  refine sT_eq ?_
  show ((sT a).cps ++ (sT b).cps).toList = _
  rw [Array.toList_append]; rfl
theorem sT_len (l : List Nat) : (sT l).length = l.length := by
  show (l.toArray).size = _
  simp
theorem s_len (s : Str) : s.length = s.cps.toList.length := by show s.cps.size = _; simp
def okC (l : List Nat) : Bool := l.all (· < 0x110000) && decide (l.length ≤ lim)
theorem okS_sT (l : List Nat) : okS (sT l) = okC l := by
  unfold okS okC
  rw [sT_len]
  congr 1
  show (l.toArray).all _ = _
  rw [List.all_toArray]
theorem okS_iff (s : Str) : okS s = true ↔ (∀ c ∈ s.cps.toList, c < 0x110000) ∧ s.cps.toList.length ≤ lim := by
  rw [← sT_of s, okS_sT]
  unfold okC
  rw [Bool.and_eq_true, List.all_eq_true, decide_eq_true_eq, sT_tl]
  simp
theorem okS_sub {s t : Str} (h : okS s = true) (hm : ∀ c ∈ t.cps.toList, c ∈ s.cps.toList) (hl : t.cps.toList.length ≤ s.cps.toList.length) : okS t = true := by
  obtain ⟨h1, h2⟩ := (okS_iff s).mp h
  exact (okS_iff t).mpr ⟨fun c hc => h1 c (hm c hc), Nat.le_trans hl h2⟩
/-! ### partition at one sign -/
theorem sub_sT (l : List Nat) (i j : Nat) : strSub (sT l) i j = sT ((l.drop i).take (j - i)) := sT_eq (strSub_toList _ _ _)
theorem at_one (l : List Nat) (c i : Nat) : At (sT l) (sT [c]) (sT l).length i ↔ l[i]? = some c := subAt_one (sT l) c i
theorem part_no {l : List Nat} {c : Nat} (h : c ∉ l) : Txt.partition (sT l) (sT [c]) = (sT l, Str.empty, Str.empty) := by
  unfold Txt.partition
  rcases occ_head (sT l) (sT [c]) 1 (Nat.le_refl 1) with ⟨e, _⟩ | ⟨i, r, _, ha, _⟩
  · rw [e]
  · exact absurd (List.mem_of_getElem? ((at_one l c i).mp ha)) h
theorem part_yes {a b : List Nat} {c : Nat} (h : c ∉ a) : Txt.partition (sT (a ++ c :: b)) (sT [c]) = (sT a, sT [c], sT b) := by
  have hat : (a ++ c :: b)[a.length]? = some c := by simp
  unfold Txt.partition
  rcases occ_head (sT (a ++ c :: b)) (sT [c]) 1 (Nat.le_refl 1) with ⟨e, hn⟩ | ⟨i, r, e, ha, hn⟩
  · exact absurd ((at_one _ c a.length).mpr hat) (hn _)
  · have hi := (at_one _ c i).mp ha
    have : i = a.length := by
      rcases Nat.lt_trichotomy i a.length with h1 | h1 | h1
      · rw [List.getElem?_append_left h1] at hi
        exact absurd (List.mem_of_getElem? hi) h
      · exact h1
      · exact absurd ((at_one _ c a.length).mpr hat) (hn _ h1)
    subst this
    rw [e]
    show (strSub _ 0 a.length, sT [c], strSub _ (a.length + 1) _) = _
    rw [sub_sT, sub_sT, sT_len]
    congr 2
    · simp
    · congr 1
      simp
      rw [show a.length + (b.length + 1) - (a.length + 1) = b.length from by omega, List.take_length]
theorem cut_at {l : List Nat} {c : Nat} (h : c ∈ l) : ∃ a b, l = a ++ c :: b ∧ c ∉ a := by
  induction l with
  | nil => cases h
  | cons x r ih =>
    by_cases e : x = c
    · subst e; exact ⟨[], r, rfl, by simp⟩
    · obtain ⟨a, b, e1, e2⟩ := ih ((List.mem_cons.mp h).resolve_left (Ne.symm e))
      exact ⟨x :: a, b, by rw [e1]; rfl, by simp [Ne.symm e, e2]⟩
theorem part_ok {s : Str} (c : Nat) (h : okS s = true) : okS (Txt.partition s (sT [c])).1 = true ∧ okS (Txt.partition s (sT [c])).2.1 = true ∧ okS (Txt.partition s (sT [c])).2.2 = true := by
  rw [← sT_of s] at h ⊢
  generalize s.cps.toList = l at h ⊢
  have he : okS Str.empty = true := by decide +kernel
  by_cases hc : c ∈ l
  · obtain ⟨a, b, rfl, ha⟩ := cut_at hc
    rw [part_yes ha]
    refine ⟨okS_sub h (fun x hx => ?_) ?_, okS_sub h (fun x hx => ?_) ?_, okS_sub h (fun x hx => ?_) ?_⟩
    · rw [sT_tl] at hx ⊢; exact List.mem_append_left _ hx
    · rw [sT_tl, sT_tl]; simp
    · rw [sT_tl] at hx ⊢; rw [List.mem_singleton.mp hx]; simp
    · rw [sT_tl, sT_tl]; simp; omega
    · rw [sT_tl] at hx ⊢; simp [hx]
    · rw [sT_tl, sT_tl]; simp; omega
  · rw [part_no hc]
    exact ⟨h, he, he⟩
/-! ### split and join at one sign -/
def joinL (c : Nat) : List (List Nat) → List Nat
  | [] => []
  | [x] => x
  | x :: y :: r => x ++ c :: joinL c (y :: r)
theorem join_sT (c : Nat) : ∀ ps : List (List Nat), Str.join (sT [c]) (ps.map sT) = sT (joinL c ps)
  | [] => rfl
  | [x] => rfl
  | x :: y :: r => by
    show sT x ++ sT [c] ++ Str.join (sT [c]) ((y :: r).map sT) = _
    rw [join_sT c (y :: r), sT_app, sT_app]
    congr 1
    simp [joinL]
theorem joinL_inj {c : Nat} : ∀ {ps qs : List (List Nat)}, ps ≠ [] → qs ≠ [] → (∀ p ∈ ps, c ∉ p) → (∀ q ∈ qs, c ∉ q) → joinL c ps = joinL c qs → ps = qs
  | [], _, h, _, _, _, _ => absurd rfl h
  | _, [], _, h, _, _, _ => absurd rfl h
  | [x], [y], _, _, _, _, e => by simp only [joinL] at e; rw [e]
  | [x], y :: z :: r, _, _, hp, _, e => by
    simp only [joinL] at e
    exact absurd (by rw [e]; simp) (hp x (by simp))
  | x :: z :: r, [y], _, _, _, hq, e => by
    simp only [joinL] at e
    exact absurd (by rw [← e]; simp) (hq y (by simp))
  | x :: x2 :: r, y :: y2 :: r', _, _, hp, hq, e => by
    simp only [joinL] at e
    have cut : ∀ (a b a' b' : List Nat), c ∉ a → c ∉ a' → a ++ c :: b = a' ++ c :: b' → a = a' ∧ b = b' := by
      intro a
      induction a with
      | nil =>
        intro b a' b' _ h2 e
        cases a' with
        | nil => simp at e; exact ⟨rfl, e⟩
        | cons z t => simp at e; exact absurd (by rw [e.1]; simp) h2
      | cons z t ih =>
        intro b a' b' h1 h2 e
        cases a' with
        | nil => simp at e; exact absurd (by rw [e.1]; simp) h1
        | cons z' t' =>
          simp at e
          obtain ⟨e1, e2⟩ := ih b t' b' (fun h => h1 (List.mem_cons_of_mem _ h)) (fun h => h2 (List.mem_cons_of_mem _ h)) e.2
          exact ⟨by rw [e.1, e1], e2⟩
    obtain ⟨e1, e2⟩ := cut _ _ _ _ (hp x (by simp)) (hq y (by simp)) e
    rw [e1, joinL_inj (by simp) (by simp) (fun p h => hp p (List.mem_cons_of_mem _ h)) (fun p h => hq p (List.mem_cons_of_mem _ h)) e2]
theorem join_mem {c : Nat} : ∀ {ps : List (List Nat)} {p : List Nat}, p ∈ ps → (∀ x ∈ p, x ∈ joinL c ps) ∧ p.length ≤ (joinL c ps).length
  | [x], p, h => by rw [List.mem_singleton.mp h]; exact ⟨fun _ h => h, Nat.le_refl _⟩
  | x :: y :: r, p, h => by
    simp only [joinL]
    rcases List.mem_cons.mp h with rfl | h
    · exact ⟨fun z hz => List.mem_append_left _ hz, by simp⟩
    · obtain ⟨h1, h2⟩ := join_mem (c := c) h
      exact ⟨fun z hz => List.mem_append_right _ (List.mem_cons_of_mem _ (h1 z hz)), by simp; omega⟩
theorem split_ne (s : Str) (c : Nat) : Txt.split s (sT [c]) ≠ [] := by
  unfold Txt.split
  split
  · simp
  · split
    · simp
    · rw [partsBetween_eq]
      obtain ⟨p, r, e⟩ := partsFrom_ne s (sT [c]).length 0 (occurrences s (sT [c]) 0 s.length (s.length + 1))
      rw [e]; simp
/-- the signs of the parts -/
def splitL (c : Nat) (l : List Nat) : List (List Nat) := (Txt.split (sT l) (sT [c])).map fun p => p.cps.toList
theorem split_sT (c : Nat) (l : List Nat) : Txt.split (sT l) (sT [c]) = (splitL c l).map sT := by
  unfold splitL
  rw [List.map_map]
  exact (List.map_id' _).symm.trans (List.map_congr_left fun p _ => (sT_of p).symm)
theorem splitL_ne (c : Nat) (l : List Nat) : splitL c l ≠ [] := by
  unfold splitL
  rw [Ne, List.map_eq_nil_iff]
  exact split_ne _ _
theorem splitL_free (c : Nat) (l : List Nat) : ∀ p ∈ splitL c l, c ∉ p := fun p hp => by
  obtain ⟨q, hq, rfl⟩ := List.mem_map.mp hp
  exact split_free (sT l) c q hq
theorem join_splitL (c : Nat) (l : List Nat) : joinL c (splitL c l) = l := by
  have h := join_split (sT l) (sT [c])
  rw [split_sT, join_sT] at h
  exact sT_inj h
theorem splitL_join {c : Nat} {ps : List (List Nat)} (hn : ps ≠ []) (hf : ∀ p ∈ ps, c ∉ p) : splitL c (joinL c ps) = ps :=
  joinL_inj (splitL_ne _ _) hn (splitL_free _ _) hf (join_splitL _ _)
theorem splitL_ok {c : Nat} {l : List Nat} (h : okC l = true) : ∀ p ∈ splitL c l, okC p = true := fun p hp => by
  obtain ⟨h1, h2⟩ := join_mem (c := c) hp
  rw [join_splitL] at h1 h2
  rw [← okS_sT] at h ⊢
  exact okS_sub h (fun x hx => by rw [sT_tl] at hx ⊢; exact h1 x hx) (by rw [sT_tl, sT_tl]; exact h2)
theorem split_allOk {c : Nat} {l : List Nat} (h : okC l = true) : ((splitL c l).map sT).all okS = true := by
  rw [List.all_map, List.all_eq_true]
  intro p hp
  show okS (sT p) = true
  rw [okS_sT]
  exact splitL_ok h p hp
theorem joinT_sT (c : Nat) (ps : List (List Nat)) : Txt.join (sT [c]) (ps.map sT) = sT (joinL c ps) := (glued_eq_join _ _).trans (join_sT c ps)
/-! ### numbers -/
open TL (numL numL_digits numL_ne numL_free numL_val numL_len numL_inj tl_num)
theorem num_sT {i : Int} (h : 0 ≤ i) : (Str.ofString (toString i) : Str) = sT (numL i.toNat) := by
  have e : i = ((i.toNat : Nat) : Int) := by omega
  rw [e]
  exact sT_eq (tl_num _)
theorem okC_num {n : Nat} (h : n < 10 ^ 6) : okC (numL n) = true := by
  unfold okC
  rw [Bool.and_eq_true, List.all_eq_true, decide_eq_true_eq]
  refine ⟨fun c hc => ?_, ?_⟩
  · have := (numL_digits n c hc).2
    simp; omega
  · have := numL_len (n := n) (k := 6) (by decide) h
    exact Nat.le_trans this (by decide)
def digB (c : Nat) : Bool := decide (48 ≤ c) && decide (c ≤ 57)
theorem digits_text {l : List Nat} (h : l.all digB = true) (hn : l ≠ []) (hl : l.length ≤ 640) : PySem.intText? (sT l) = some ((PySem.NumText.digitsVal l : Nat) : Int) := by
  refine intText_digits (x := sT l) (fun c hc => ?_) (by rw [sT_tl]; exact hn) (by rw [sT_len]; omega)
  have := List.all_eq_true.mp h c (by rwa [sT_tl] at hc)
  unfold digB at this
  simpa using this
theorem log2_small {i : Int} (h0 : 0 ≤ i) (h1 : i < 10 ^ 6) : i.natAbs.log2 < 1920 := by
  by_cases h : i.natAbs = 0
  · rw [h]; decide
  · rw [Nat.log2_lt h]
    refine Nat.lt_of_lt_of_le (m := 2 ^ 20) (by omega) (Nat.pow_le_pow_right (by decide) (by decide))
theorem okS_num {i : Int} (h0 : 0 ≤ i) (h1 : i < 10 ^ 6) : okS (Str.ofString (toString i)) = true := by
  rw [num_sT h0, okS_sT]
  exact okC_num (by omega)
/-- a small number, as a text -/
theorem w_fmtI {X : Str → List MO → Prop} {a : DE} {s : Sx} {Q : SV → Sx → Prop} (h : Ww X (a s) fun v s1 => ∃ i : Int, frz v = .int i ∧ (0 ≤ i ∧ i < 10 ^ 6) ∧ Q (.val (.str (sT (numL i.toNat)))) s1) : Ww X (dFmt a s) Q := by
  refine w_fmt (h.imp fun v s1 q => ?_)
  obtain ⟨i, e, hi, q⟩ := q
  refine .inr ⟨i, e, log2_small hi.1 hi.2, okS_num hi.1 hi.2, ?_⟩
  have : (Str.ofString (toString i) : Str) = sT (numL i.toNat) := num_sT hi.1
  show Q (.val (.str (Str.ofString (toString i)))) s1
  rw [this]; exact q
theorem oStr_num {i : Int} (h0 : 0 ≤ i) (h1 : i < 10 ^ 6) : oStr (.int i) = some (.val (.str (sT (numL i.toNat)))) := by
  show (if i.natAbs.log2 < 1920 ∧ okS (Str.ofString (toString i)) = true then some (SV.val (.str (Str.ofString (toString i)))) else none) = _
  rw [if_pos ⟨log2_small h0 h1, okS_num h0 h1⟩, num_sT h0]
theorem s_colon : (Str.ofString ":" : Str) = sT [58] := by decide +kernel
theorem s_dash : (Str.ofString "-" : Str) = sT [45] := by decide +kernel
theorem s_eq : (Str.ofString "=" : Str) = sT [61] := by decide +kernel
theorem s_space : (Str.ofString " " : Str) = sT [32] := by decide +kernel
theorem s_empty : Str.empty = sT [] := by decide +kernel
theorem oPart_ok {s : Str} (h : okS s = true) (c : Nat) : oPartition (.str s) (.str (sT [c])) = some (.val (.tup [.str (Txt.partition s (sT [c])).1, .str (Txt.partition s (sT [c])).2.1, .str (Txt.partition s (sT [c])).2.2])) := by
  have h0 : ¬ (sT [c]).length = 0 := by rw [sT_len]; simp
  unfold oPartition
  dsimp only
  rw [if_neg h0, if_pos (part_ok c h)]
theorem oSplit_ok {l : List Nat} (h : okC l = true) (c : Nat) : oSplit (.str (sT l)) (.str (sT [c])) = some (.own (((splitL c l).map sT).map .str)) := by
  have h0 : ¬ (sT [c]).length = 0 := by rw [sT_len]; simp
  unfold oSplit
  dsimp only
  rw [if_neg h0, split_sT, if_pos (split_allOk h)]
theorem allStrs_map : ∀ ps : List Str, allStrs (ps.map D.str) = some ps
  | [] => rfl
  | p :: ps => by simp [allStrs, allStrs_map ps]
theorem sum_le {B : Nat} : ∀ {ps : List Nat}, (∀ p ∈ ps, p ≤ B) → ps.sum ≤ ps.length * B
  | [], _ => by simp
  | p :: ps, h => by
    have h1 := h p (by simp)
    have h2 := sum_le (ps := ps) (fun q hq => h q (by simp [hq]))
    simp [Nat.add_mul]
    omega
theorem oJoin_ok {ps : List (List Nat)} {c : Nat} (h : okC (joinL c ps) = true) (hl : (ps.map List.length).sum + ps.length ≤ 16777216) : oJoin (.str (sT [c])) (.lst (ps.map fun p => .str (sT p))) = some (.val (.str (sT (joinL c ps)))) := by
  have e : (ps.map fun p => D.str (sT p)) = (ps.map sT).map D.str := by rw [List.map_map]; rfl
  show (allStrs _).bind _ = _
  rw [e, allStrs_map]
  show (if _ ∧ _ then _ else _) = _
  have e2 : ((ps.map sT).map (·.length)).sum = (ps.map List.length).sum := by
    rw [List.map_map]
    exact congrArg List.sum (List.map_congr_left fun p _ => sT_len p)
  rw [joinT_sT, if_pos ⟨by rw [e2, List.length_map, sT_len]; simpa using hl, by rw [okS_sT]; exact h⟩]
end DL
namespace T82
open PySem DL
open TL (numL numL_digits numL_ne numL_free numL_val numL_len numL_inj tl_num)
def numD (l : List Nat) : D := if (1 ≤ l.length ∧ l.length ≤ 3) ∧ l.all digB = true then .int (PySem.NumText.digitsVal l : Nat) else .non
theorem digs_eq : (Str.ofString "0123456789" : Str) = sT [48, 49, 50, 51, 52, 53, 54, 55, 56, 57] := by decide +kernel
theorem oIn_dig (c : Nat) : oIn false (.str ⟨#[c]⟩) (.str (Str.ofString "0123456789")) = some (.val (.bl (digB c))) := by
  rw [digs_eq]
  show some (SV.val (.bl (decide (c ∈ [48, 49, 50, 51, 52, 53, 54, 55, 56, 57])))) = _
  congr 3
  unfold digB
  rw [Bool.eq_iff_iff]
  simp
  omega
theorem oLen_sT (l : List Nat) : oLen (.str (sT l)) = some (.val (.int (l.length : Nat))) := by
  show some (SV.val (.int ((sT l).length : Nat))) = _
  rw [sT_len]
theorem number_of_ok (l : List Nat) (M : List MO) : r_number_of [.str (sT l)] M = .ok (.val (numD l)) ⟨[], M⟩ := by
  refine Ww.to_eq (in_number_of ?_)
  unfold db_number_of
  have key : ∀ {Q : List D → Sx → Prop}, Q (l.map fun c => D.bl (digB c)) ⟨[some (.val (.str (sT l))), none], M⟩ → Ww NoX (compD [1] (.nm 1) tTrue (d2 (oIn false) (dVar 1) (dC (.str "0123456789"))) (strD (sT l)) [] ⟨[some (.val (.str (sT l))), none], M⟩) Q := fun {Q} q => by
    refine comp_nm (fun _ => true) (fun d => match d with
      | .str z => (match z.cps.toList with
        | [c] => .bl (digB c)
        | _ => .non)
      | _ => .non) (fun d hd' ρ' h1 h2 h3 => ⟨rfl, rfl⟩) (fun d hd' _ ρ' h1 h2 h3 => ?_) (by simp) (by simp) ?_
    · obtain ⟨c, hc, rfl⟩ := List.mem_map.mp hd'
      refine w_d2 (w_var h3 (w_C (x_eq (oIn_dig c) ⟨rfl, rfl⟩)))
    · rw [show ∀ l : List D, l.filter (fun _ => true) = l from fun l => List.filter_eq_self.mpr fun _ _ => rfl]
      have em : (strD (sT l)).map (fun d => match d with
          | .str z => (match z.cps.toList with
            | [c] => D.bl (digB c)
            | _ => .non)
          | _ => .non) = l.map fun c => D.bl (digB c) := by
        unfold strD
        rw [List.map_map, sT_tl]; rfl
      rw [em]
      exact q
  repeat (first | with_reducible apply w_seq | with_reducible apply w_ret | with_reducible apply w_ifS | with_reducible apply w_set | with_reducible apply w_C | with_reducible apply w_nil | with_reducible apply w_cons | with_reducible apply w_tup | with_reducible apply w_lst | with_reducible apply w_d2 | ((with_reducible apply w_var); rfl) | ((with_reducible apply w_varO); rfl) | with_reducible apply w_call | with_reducible apply w_test | with_reducible apply w_V1 | with_reducible apply w_V2 | with_reducible apply w_W2 | with_reducible apply w_chain | with_reducible apply w_tAnd | with_reducible apply w_tOr | with_reducible apply w_tNot | with_reducible apply w_tTrue | with_reducible apply w_and | with_reducible apply w_or | with_reducible apply w_not | with_reducible apply w_ifE | with_reducible apply w_isi | with_reducible apply w_dN | with_reducible apply w_d1 | ((with_reducible apply w_has); (apply x_has; rfl)) | ((with_reducible apply w_take); rfl) | ((with_reducible apply w_takeO); rfl) | with_reducible apply w_no | with_reducible apply w_at | with_reducible apply w_sl | with_reducible apply w_slV | with_reducible apply w_M1 | with_reducible apply w_fmt | with_reducible apply w_js0 | with_reducible apply w_js | with_reducible apply w_iAny | with_reducible apply w_iR1 | with_reducible apply w_iR2 | with_reducible apply w_for | with_reducible apply w_comp | with_reducible apply w_cc | with_reducible apply w_cn | with_reducible apply w_skip | with_reducible apply w_expr | with_reducible apply w_unp | with_reducible apply w_par2 | with_reducible apply w_par3 | with_reducible apply w_emp | with_reducible apply w_setObj | with_reducible apply w_raise | with_reducible apply w_catch | dsimp only [List.set_cons_zero, List.set_cons_succ, wipeD, frz_v, frz_o, frz_d] | ((with_reducible apply x_t); rfl) | ((with_reducible apply x_f); rfl) | ((with_reducible apply xi_int); rfl) | ((with_reducible apply xi_bool); rfl) | ((with_reducible apply xi_str); rfl) | ((with_reducible apply xi_tuple); rfl) | ((with_reducible apply xi_list); rfl) | ((with_reducible apply xi_dict); rfl) | ((with_reducible apply x_chain); rfl) | ((with_reducible apply x_bl); rfl) | ((with_reducible apply x_int); rfl) | ((with_reducible apply x_str); rfl) | ((with_reducible apply x_eq); rfl) | ((with_reducible apply x_intD); rfl) | ((with_reducible apply x_own); rfl) | ((with_reducible apply x_ow); rfl) | ((with_reducible apply x_owD); rfl) | ((with_reducible apply x_ob); rfl) | ((with_reducible apply x_mo); rfl) | ((with_reducible apply x_tp); rfl) | ((with_reducible apply x_intD2); rfl; rfl) | ((with_reducible apply x_le); exact Nat.le_of_ble_eq_true rfl))
  rw [sT_len]
  by_cases h1 : 1 ≤ l.length
  · have h1' : decide ((1 : Int) ≤ (l.length : Int)) = true := by simp; omega
    refine x_t h1' ?_
    repeat (first | with_reducible apply w_seq | with_reducible apply w_ret | with_reducible apply w_ifS | with_reducible apply w_set | with_reducible apply w_C | with_reducible apply w_nil | with_reducible apply w_cons | with_reducible apply w_tup | with_reducible apply w_lst | with_reducible apply w_d2 | ((with_reducible apply w_var); rfl) | ((with_reducible apply w_varO); rfl) | with_reducible apply w_call | with_reducible apply w_test | with_reducible apply w_V1 | with_reducible apply w_V2 | with_reducible apply w_W2 | with_reducible apply w_chain | with_reducible apply w_tAnd | with_reducible apply w_tOr | with_reducible apply w_tNot | with_reducible apply w_tTrue | with_reducible apply w_and | with_reducible apply w_or | with_reducible apply w_not | with_reducible apply w_ifE | with_reducible apply w_isi | with_reducible apply w_dN | with_reducible apply w_d1 | ((with_reducible apply w_has); (apply x_has; rfl)) | ((with_reducible apply w_take); rfl) | ((with_reducible apply w_takeO); rfl) | with_reducible apply w_no | with_reducible apply w_at | with_reducible apply w_sl | with_reducible apply w_slV | with_reducible apply w_M1 | with_reducible apply w_fmt | with_reducible apply w_js0 | with_reducible apply w_js | with_reducible apply w_iAny | with_reducible apply w_iR1 | with_reducible apply w_iR2 | with_reducible apply w_for | with_reducible apply w_comp | with_reducible apply w_cc | with_reducible apply w_cn | with_reducible apply w_skip | with_reducible apply w_expr | with_reducible apply w_unp | with_reducible apply w_par2 | with_reducible apply w_par3 | with_reducible apply w_emp | with_reducible apply w_setObj | with_reducible apply w_raise | with_reducible apply w_catch | dsimp only [List.set_cons_zero, List.set_cons_succ, wipeD, frz_v, frz_o, frz_d] | ((with_reducible apply x_t); rfl) | ((with_reducible apply x_f); rfl) | ((with_reducible apply xi_int); rfl) | ((with_reducible apply xi_bool); rfl) | ((with_reducible apply xi_str); rfl) | ((with_reducible apply xi_tuple); rfl) | ((with_reducible apply xi_list); rfl) | ((with_reducible apply xi_dict); rfl) | ((with_reducible apply x_chain); rfl) | ((with_reducible apply x_bl); rfl) | ((with_reducible apply x_int); rfl) | ((with_reducible apply x_str); rfl) | ((with_reducible apply x_eq); rfl) | ((with_reducible apply x_intD); rfl) | ((with_reducible apply x_own); rfl) | ((with_reducible apply x_ow); rfl) | ((with_reducible apply x_owD); rfl) | ((with_reducible apply x_ob); rfl) | ((with_reducible apply x_mo); rfl) | ((with_reducible apply x_tp); rfl) | ((with_reducible apply x_intD2); rfl; rfl) | ((with_reducible apply x_le); exact Nat.le_of_ble_eq_true rfl))
    by_cases h3 : l.length ≤ 3
    · have h3' : decide ((l.length : Int) ≤ 3) = true := by simp; omega
      rw [h3']
      repeat (first | with_reducible apply w_seq | with_reducible apply w_ret | with_reducible apply w_ifS | with_reducible apply w_set | with_reducible apply w_C | with_reducible apply w_nil | with_reducible apply w_cons | with_reducible apply w_tup | with_reducible apply w_lst | with_reducible apply w_d2 | ((with_reducible apply w_var); rfl) | ((with_reducible apply w_varO); rfl) | with_reducible apply w_call | with_reducible apply w_test | with_reducible apply w_V1 | with_reducible apply w_V2 | with_reducible apply w_W2 | with_reducible apply w_chain | with_reducible apply w_tAnd | with_reducible apply w_tOr | with_reducible apply w_tNot | with_reducible apply w_tTrue | with_reducible apply w_and | with_reducible apply w_or | with_reducible apply w_not | with_reducible apply w_ifE | with_reducible apply w_isi | with_reducible apply w_dN | with_reducible apply w_d1 | ((with_reducible apply w_has); (apply x_has; rfl)) | ((with_reducible apply w_take); rfl) | ((with_reducible apply w_takeO); rfl) | with_reducible apply w_no | with_reducible apply w_at | with_reducible apply w_sl | with_reducible apply w_slV | with_reducible apply w_M1 | with_reducible apply w_fmt | with_reducible apply w_js0 | with_reducible apply w_js | with_reducible apply w_iAny | with_reducible apply w_iR1 | with_reducible apply w_iR2 | with_reducible apply w_for | with_reducible apply w_comp | with_reducible apply w_cc | with_reducible apply w_cn | with_reducible apply w_skip | with_reducible apply w_expr | with_reducible apply w_unp | with_reducible apply w_par2 | with_reducible apply w_par3 | with_reducible apply w_emp | with_reducible apply w_setObj | with_reducible apply w_raise | with_reducible apply w_catch | dsimp only [List.set_cons_zero, List.set_cons_succ, wipeD, frz_v, frz_o, frz_d] | ((with_reducible apply x_t); rfl) | ((with_reducible apply x_f); rfl) | ((with_reducible apply xi_int); rfl) | ((with_reducible apply xi_bool); rfl) | ((with_reducible apply xi_str); rfl) | ((with_reducible apply xi_tuple); rfl) | ((with_reducible apply xi_list); rfl) | ((with_reducible apply xi_dict); rfl) | ((with_reducible apply x_chain); rfl) | ((with_reducible apply x_bl); rfl) | ((with_reducible apply x_int); rfl) | ((with_reducible apply x_str); rfl) | ((with_reducible apply x_eq); rfl) | ((with_reducible apply x_intD); rfl) | ((with_reducible apply x_own); rfl) | ((with_reducible apply x_ow); rfl) | ((with_reducible apply x_owD); rfl) | ((with_reducible apply x_ob); rfl) | ((with_reducible apply x_mo); rfl) | ((with_reducible apply x_tp); rfl) | ((with_reducible apply x_intD2); rfl; rfl) | ((with_reducible apply x_le); exact Nat.le_of_ble_eq_true rfl))
      refine key ?_
      repeat (first | with_reducible apply w_seq | with_reducible apply w_ret | with_reducible apply w_ifS | with_reducible apply w_set | with_reducible apply w_C | with_reducible apply w_nil | with_reducible apply w_cons | with_reducible apply w_tup | with_reducible apply w_lst | with_reducible apply w_d2 | ((with_reducible apply w_var); rfl) | ((with_reducible apply w_varO); rfl) | with_reducible apply w_call | with_reducible apply w_test | with_reducible apply w_V1 | with_reducible apply w_V2 | with_reducible apply w_W2 | with_reducible apply w_chain | with_reducible apply w_tAnd | with_reducible apply w_tOr | with_reducible apply w_tNot | with_reducible apply w_tTrue | with_reducible apply w_and | with_reducible apply w_or | with_reducible apply w_not | with_reducible apply w_ifE | with_reducible apply w_isi | with_reducible apply w_dN | with_reducible apply w_d1 | ((with_reducible apply w_has); (apply x_has; rfl)) | ((with_reducible apply w_take); rfl) | ((with_reducible apply w_takeO); rfl) | with_reducible apply w_no | with_reducible apply w_at | with_reducible apply w_sl | with_reducible apply w_slV | with_reducible apply w_M1 | with_reducible apply w_fmt | with_reducible apply w_js0 | with_reducible apply w_js | with_reducible apply w_iAny | with_reducible apply w_iR1 | with_reducible apply w_iR2 | with_reducible apply w_for | with_reducible apply w_comp | with_reducible apply w_cc | with_reducible apply w_cn | with_reducible apply w_skip | with_reducible apply w_expr | with_reducible apply w_unp | with_reducible apply w_par2 | with_reducible apply w_par3 | with_reducible apply w_emp | with_reducible apply w_setObj | with_reducible apply w_raise | with_reducible apply w_catch | dsimp only [List.set_cons_zero, List.set_cons_succ, wipeD, frz_v, frz_o, frz_d] | ((with_reducible apply x_t); rfl) | ((with_reducible apply x_f); rfl) | ((with_reducible apply xi_int); rfl) | ((with_reducible apply xi_bool); rfl) | ((with_reducible apply xi_str); rfl) | ((with_reducible apply xi_tuple); rfl) | ((with_reducible apply xi_list); rfl) | ((with_reducible apply xi_dict); rfl) | ((with_reducible apply x_chain); rfl) | ((with_reducible apply x_bl); rfl) | ((with_reducible apply x_int); rfl) | ((with_reducible apply x_str); rfl) | ((with_reducible apply x_eq); rfl) | ((with_reducible apply x_intD); rfl) | ((with_reducible apply x_own); rfl) | ((with_reducible apply x_ow); rfl) | ((with_reducible apply x_owD); rfl) | ((with_reducible apply x_ob); rfl) | ((with_reducible apply x_mo); rfl) | ((with_reducible apply x_tp); rfl) | ((with_reducible apply x_intD2); rfl; rfl) | ((with_reducible apply x_le); exact Nat.le_of_ble_eq_true rfl))
      refine x_eq (oAll_map digB l) ?_
      repeat (first | with_reducible apply w_seq | with_reducible apply w_ret | with_reducible apply w_ifS | with_reducible apply w_set | with_reducible apply w_C | with_reducible apply w_nil | with_reducible apply w_cons | with_reducible apply w_tup | with_reducible apply w_lst | with_reducible apply w_d2 | ((with_reducible apply w_var); rfl) | ((with_reducible apply w_varO); rfl) | with_reducible apply w_call | with_reducible apply w_test | with_reducible apply w_V1 | with_reducible apply w_V2 | with_reducible apply w_W2 | with_reducible apply w_chain | with_reducible apply w_tAnd | with_reducible apply w_tOr | with_reducible apply w_tNot | with_reducible apply w_tTrue | with_reducible apply w_and | with_reducible apply w_or | with_reducible apply w_not | with_reducible apply w_ifE | with_reducible apply w_isi | with_reducible apply w_dN | with_reducible apply w_d1 | ((with_reducible apply w_has); (apply x_has; rfl)) | ((with_reducible apply w_take); rfl) | ((with_reducible apply w_takeO); rfl) | with_reducible apply w_no | with_reducible apply w_at | with_reducible apply w_sl | with_reducible apply w_slV | with_reducible apply w_M1 | with_reducible apply w_fmt | with_reducible apply w_js0 | with_reducible apply w_js | with_reducible apply w_iAny | with_reducible apply w_iR1 | with_reducible apply w_iR2 | with_reducible apply w_for | with_reducible apply w_comp | with_reducible apply w_cc | with_reducible apply w_cn | with_reducible apply w_skip | with_reducible apply w_expr | with_reducible apply w_unp | with_reducible apply w_par2 | with_reducible apply w_par3 | with_reducible apply w_emp | with_reducible apply w_setObj | with_reducible apply w_raise | with_reducible apply w_catch | dsimp only [List.set_cons_zero, List.set_cons_succ, wipeD, frz_v, frz_o, frz_d] | ((with_reducible apply x_t); rfl) | ((with_reducible apply x_f); rfl) | ((with_reducible apply xi_int); rfl) | ((with_reducible apply xi_bool); rfl) | ((with_reducible apply xi_str); rfl) | ((with_reducible apply xi_tuple); rfl) | ((with_reducible apply xi_list); rfl) | ((with_reducible apply xi_dict); rfl) | ((with_reducible apply x_chain); rfl) | ((with_reducible apply x_bl); rfl) | ((with_reducible apply x_int); rfl) | ((with_reducible apply x_str); rfl) | ((with_reducible apply x_eq); rfl) | ((with_reducible apply x_intD); rfl) | ((with_reducible apply x_own); rfl) | ((with_reducible apply x_ow); rfl) | ((with_reducible apply x_owD); rfl) | ((with_reducible apply x_ob); rfl) | ((with_reducible apply x_mo); rfl) | ((with_reducible apply x_tp); rfl) | ((with_reducible apply x_intD2); rfl; rfl) | ((with_reducible apply x_le); exact Nat.le_of_ble_eq_true rfl))
      cases hall : l.all digB with
      | true =>
        have e1 : numD l = .int (PySem.NumText.digitsVal l : Nat) := if_pos ⟨⟨h1, h3⟩, hall⟩
        have e2 : oInt (.str (sT l)) = some (.val (.int (PySem.NumText.digitsVal l : Nat))) := by
          have hne : l ≠ [] := by rintro rfl; simp at h1
          show (if (sT l).length ≤ 640 then _ else _) = _
          rw [if_pos (by rw [sT_len]; omega), digits_text hall hne (by omega)]; rfl
        rw [e1]
        repeat (first | ((with_reducible apply x_eq); exact e2) | with_reducible apply w_seq | with_reducible apply w_ret | with_reducible apply w_ifS | with_reducible apply w_set | with_reducible apply w_C | with_reducible apply w_nil | with_reducible apply w_cons | with_reducible apply w_tup | with_reducible apply w_lst | with_reducible apply w_d2 | ((with_reducible apply w_var); rfl) | ((with_reducible apply w_varO); rfl) | with_reducible apply w_call | with_reducible apply w_test | with_reducible apply w_V1 | with_reducible apply w_V2 | with_reducible apply w_W2 | with_reducible apply w_chain | with_reducible apply w_tAnd | with_reducible apply w_tOr | with_reducible apply w_tNot | with_reducible apply w_tTrue | with_reducible apply w_and | with_reducible apply w_or | with_reducible apply w_not | with_reducible apply w_ifE | with_reducible apply w_isi | with_reducible apply w_dN | with_reducible apply w_d1 | ((with_reducible apply w_has); (apply x_has; rfl)) | ((with_reducible apply w_take); rfl) | ((with_reducible apply w_takeO); rfl) | with_reducible apply w_no | with_reducible apply w_at | with_reducible apply w_sl | with_reducible apply w_slV | with_reducible apply w_M1 | with_reducible apply w_fmt | with_reducible apply w_js0 | with_reducible apply w_js | with_reducible apply w_iAny | with_reducible apply w_iR1 | with_reducible apply w_iR2 | with_reducible apply w_for | with_reducible apply w_comp | with_reducible apply w_cc | with_reducible apply w_cn | with_reducible apply w_skip | with_reducible apply w_expr | with_reducible apply w_unp | with_reducible apply w_par2 | with_reducible apply w_par3 | with_reducible apply w_emp | with_reducible apply w_setObj | with_reducible apply w_raise | with_reducible apply w_catch | dsimp only [List.set_cons_zero, List.set_cons_succ, wipeD, frz_v, frz_o, frz_d] | ((with_reducible apply x_t); rfl) | ((with_reducible apply x_f); rfl) | ((with_reducible apply xi_int); rfl) | ((with_reducible apply xi_bool); rfl) | ((with_reducible apply xi_str); rfl) | ((with_reducible apply xi_tuple); rfl) | ((with_reducible apply xi_list); rfl) | ((with_reducible apply xi_dict); rfl) | ((with_reducible apply x_chain); rfl) | ((with_reducible apply x_bl); rfl) | ((with_reducible apply x_int); rfl) | ((with_reducible apply x_str); rfl) | ((with_reducible apply x_eq); rfl) | ((with_reducible apply x_intD); rfl) | ((with_reducible apply x_own); rfl) | ((with_reducible apply x_ow); rfl) | ((with_reducible apply x_owD); rfl) | ((with_reducible apply x_ob); rfl) | ((with_reducible apply x_mo); rfl) | ((with_reducible apply x_tp); rfl) | ((with_reducible apply x_intD2); rfl; rfl) | ((with_reducible apply x_le); exact Nat.le_of_ble_eq_true rfl))
        exact ⟨rfl, rfl⟩
      | false =>
        have e1 : numD l = .non := if_neg fun h => by rw [hall] at h; cases h.2
        rw [e1]
        repeat (first | with_reducible apply w_seq | with_reducible apply w_ret | with_reducible apply w_ifS | with_reducible apply w_set | with_reducible apply w_C | with_reducible apply w_nil | with_reducible apply w_cons | with_reducible apply w_tup | with_reducible apply w_lst | with_reducible apply w_d2 | ((with_reducible apply w_var); rfl) | ((with_reducible apply w_varO); rfl) | with_reducible apply w_call | with_reducible apply w_test | with_reducible apply w_V1 | with_reducible apply w_V2 | with_reducible apply w_W2 | with_reducible apply w_chain | with_reducible apply w_tAnd | with_reducible apply w_tOr | with_reducible apply w_tNot | with_reducible apply w_tTrue | with_reducible apply w_and | with_reducible apply w_or | with_reducible apply w_not | with_reducible apply w_ifE | with_reducible apply w_isi | with_reducible apply w_dN | with_reducible apply w_d1 | ((with_reducible apply w_has); (apply x_has; rfl)) | ((with_reducible apply w_take); rfl) | ((with_reducible apply w_takeO); rfl) | with_reducible apply w_no | with_reducible apply w_at | with_reducible apply w_sl | with_reducible apply w_slV | with_reducible apply w_M1 | with_reducible apply w_fmt | with_reducible apply w_js0 | with_reducible apply w_js | with_reducible apply w_iAny | with_reducible apply w_iR1 | with_reducible apply w_iR2 | with_reducible apply w_for | with_reducible apply w_comp | with_reducible apply w_cc | with_reducible apply w_cn | with_reducible apply w_skip | with_reducible apply w_expr | with_reducible apply w_unp | with_reducible apply w_par2 | with_reducible apply w_par3 | with_reducible apply w_emp | with_reducible apply w_setObj | with_reducible apply w_raise | with_reducible apply w_catch | dsimp only [List.set_cons_zero, List.set_cons_succ, wipeD, frz_v, frz_o, frz_d] | ((with_reducible apply x_t); rfl) | ((with_reducible apply x_f); rfl) | ((with_reducible apply xi_int); rfl) | ((with_reducible apply xi_bool); rfl) | ((with_reducible apply xi_str); rfl) | ((with_reducible apply xi_tuple); rfl) | ((with_reducible apply xi_list); rfl) | ((with_reducible apply xi_dict); rfl) | ((with_reducible apply x_chain); rfl) | ((with_reducible apply x_bl); rfl) | ((with_reducible apply x_int); rfl) | ((with_reducible apply x_str); rfl) | ((with_reducible apply x_eq); rfl) | ((with_reducible apply x_intD); rfl) | ((with_reducible apply x_own); rfl) | ((with_reducible apply x_ow); rfl) | ((with_reducible apply x_owD); rfl) | ((with_reducible apply x_ob); rfl) | ((with_reducible apply x_mo); rfl) | ((with_reducible apply x_tp); rfl) | ((with_reducible apply x_intD2); rfl; rfl) | ((with_reducible apply x_le); exact Nat.le_of_ble_eq_true rfl))
        exact ⟨rfl, rfl⟩
    · have h3' : decide ((l.length : Int) ≤ 3) = false := by simp; omega
      have e1 : numD l = .non := if_neg fun h => h3 h.1.2
      rw [h3', e1]
      repeat (first | with_reducible apply w_seq | with_reducible apply w_ret | with_reducible apply w_ifS | with_reducible apply w_set | with_reducible apply w_C | with_reducible apply w_nil | with_reducible apply w_cons | with_reducible apply w_tup | with_reducible apply w_lst | with_reducible apply w_d2 | ((with_reducible apply w_var); rfl) | ((with_reducible apply w_varO); rfl) | with_reducible apply w_call | with_reducible apply w_test | with_reducible apply w_V1 | with_reducible apply w_V2 | with_reducible apply w_W2 | with_reducible apply w_chain | with_reducible apply w_tAnd | with_reducible apply w_tOr | with_reducible apply w_tNot | with_reducible apply w_tTrue | with_reducible apply w_and | with_reducible apply w_or | with_reducible apply w_not | with_reducible apply w_ifE | with_reducible apply w_isi | with_reducible apply w_dN | with_reducible apply w_d1 | ((with_reducible apply w_has); (apply x_has; rfl)) | ((with_reducible apply w_take); rfl) | ((with_reducible apply w_takeO); rfl) | with_reducible apply w_no | with_reducible apply w_at | with_reducible apply w_sl | with_reducible apply w_slV | with_reducible apply w_M1 | with_reducible apply w_fmt | with_reducible apply w_js0 | with_reducible apply w_js | with_reducible apply w_iAny | with_reducible apply w_iR1 | with_reducible apply w_iR2 | with_reducible apply w_for | with_reducible apply w_comp | with_reducible apply w_cc | with_reducible apply w_cn | with_reducible apply w_skip | with_reducible apply w_expr | with_reducible apply w_unp | with_reducible apply w_par2 | with_reducible apply w_par3 | with_reducible apply w_emp | with_reducible apply w_setObj | with_reducible apply w_raise | with_reducible apply w_catch | dsimp only [List.set_cons_zero, List.set_cons_succ, wipeD, frz_v, frz_o, frz_d] | ((with_reducible apply x_t); rfl) | ((with_reducible apply x_f); rfl) | ((with_reducible apply xi_int); rfl) | ((with_reducible apply xi_bool); rfl) | ((with_reducible apply xi_str); rfl) | ((with_reducible apply xi_tuple); rfl) | ((with_reducible apply xi_list); rfl) | ((with_reducible apply xi_dict); rfl) | ((with_reducible apply x_chain); rfl) | ((with_reducible apply x_bl); rfl) | ((with_reducible apply x_int); rfl) | ((with_reducible apply x_str); rfl) | ((with_reducible apply x_eq); rfl) | ((with_reducible apply x_intD); rfl) | ((with_reducible apply x_own); rfl) | ((with_reducible apply x_ow); rfl) | ((with_reducible apply x_owD); rfl) | ((with_reducible apply x_ob); rfl) | ((with_reducible apply x_mo); rfl) | ((with_reducible apply x_tp); rfl) | ((with_reducible apply x_intD2); rfl; rfl) | ((with_reducible apply x_le); exact Nat.le_of_ble_eq_true rfl))
      exact ⟨rfl, rfl⟩
  · have h1' : decide ((1 : Int) ≤ (l.length : Int)) = false := by simp; omega
    have e1 : numD l = .non := if_neg fun h => h1 h.1.1
    refine x_f h1' ?_
    rw [e1]
    repeat (first | with_reducible apply w_seq | with_reducible apply w_ret | with_reducible apply w_ifS | with_reducible apply w_set | with_reducible apply w_C | with_reducible apply w_nil | with_reducible apply w_cons | with_reducible apply w_tup | with_reducible apply w_lst | with_reducible apply w_d2 | ((with_reducible apply w_var); rfl) | ((with_reducible apply w_varO); rfl) | with_reducible apply w_call | with_reducible apply w_test | with_reducible apply w_V1 | with_reducible apply w_V2 | with_reducible apply w_W2 | with_reducible apply w_chain | with_reducible apply w_tAnd | with_reducible apply w_tOr | with_reducible apply w_tNot | with_reducible apply w_tTrue | with_reducible apply w_and | with_reducible apply w_or | with_reducible apply w_not | with_reducible apply w_ifE | with_reducible apply w_isi | with_reducible apply w_dN | with_reducible apply w_d1 | ((with_reducible apply w_has); (apply x_has; rfl)) | ((with_reducible apply w_take); rfl) | ((with_reducible apply w_takeO); rfl) | with_reducible apply w_no | with_reducible apply w_at | with_reducible apply w_sl | with_reducible apply w_slV | with_reducible apply w_M1 | with_reducible apply w_fmt | with_reducible apply w_js0 | with_reducible apply w_js | with_reducible apply w_iAny | with_reducible apply w_iR1 | with_reducible apply w_iR2 | with_reducible apply w_for | with_reducible apply w_comp | with_reducible apply w_cc | with_reducible apply w_cn | with_reducible apply w_skip | with_reducible apply w_expr | with_reducible apply w_unp | with_reducible apply w_par2 | with_reducible apply w_par3 | with_reducible apply w_emp | with_reducible apply w_setObj | with_reducible apply w_raise | with_reducible apply w_catch | dsimp only [List.set_cons_zero, List.set_cons_succ, wipeD, frz_v, frz_o, frz_d] | ((with_reducible apply x_t); rfl) | ((with_reducible apply x_f); rfl) | ((with_reducible apply xi_int); rfl) | ((with_reducible apply xi_bool); rfl) | ((with_reducible apply xi_str); rfl) | ((with_reducible apply xi_tuple); rfl) | ((with_reducible apply xi_list); rfl) | ((with_reducible apply xi_dict); rfl) | ((with_reducible apply x_chain); rfl) | ((with_reducible apply x_bl); rfl) | ((with_reducible apply x_int); rfl) | ((with_reducible apply x_str); rfl) | ((with_reducible apply x_eq); rfl) | ((with_reducible apply x_intD); rfl) | ((with_reducible apply x_own); rfl) | ((with_reducible apply x_ow); rfl) | ((with_reducible apply x_owD); rfl) | ((with_reducible apply x_ob); rfl) | ((with_reducible apply x_mo); rfl) | ((with_reducible apply x_tp); rfl) | ((with_reducible apply x_intD2); rfl; rfl) | ((with_reducible apply x_le); exact Nat.le_of_ble_eq_true rfl))
    exact ⟨rfl, rfl⟩
end T82
namespace T82
open PySem DL
open TL (numL numL_digits numL_ne numL_free numL_val numL_len numL_inj tl_num)
theorem number_of_s (s : Str) (M : List MO) : r_number_of [.str s] M = .ok (.val (numD s.cps.toList)) ⟨[], M⟩ := by
  have := number_of_ok s.cps.toList M
  rwa [sT_of] at this
def lineOfD (l : List Nat) : D := .tup [numD (Txt.partition (Txt.partition (sT l) (sT [61])).1 (sT [45])).1.cps.toList, numD (Txt.partition (Txt.partition (sT l) (sT [61])).1 (sT [45])).2.2.cps.toList, numD (Txt.partition (sT l) (sT [61])).2.2.cps.toList]
theorem line_of_ok {l : List Nat} (h : okC l = true) (M : List MO) : r_line_of [.str (sT l)] M = .ok (.val (lineOfD l)) ⟨[], M⟩ := by
  have h1 : okS (sT l) = true := by rw [okS_sT]; exact h
  have h2 := (part_ok 61 h1).1
  refine Ww.to_eq (in_line_of ?_)
  unfold db_line_of
  rw [s_eq, s_dash]
  repeat (first | ((with_reducible apply x_eq); with_reducible exact oPart_ok h1 _) | ((with_reducible apply x_eq); with_reducible exact oPart_ok h2 _) | refine Ww.eq (number_of_s _ _) ?_ | with_reducible apply w_seq | with_reducible apply w_ret | with_reducible apply w_ifS | with_reducible apply w_set | with_reducible apply w_C | with_reducible apply w_nil | with_reducible apply w_cons | with_reducible apply w_tup | with_reducible apply w_lst | with_reducible apply w_d2 | ((with_reducible apply w_var); rfl) | ((with_reducible apply w_varO); rfl) | with_reducible apply w_call | with_reducible apply w_test | with_reducible apply w_V1 | with_reducible apply w_V2 | with_reducible apply w_W2 | with_reducible apply w_chain | with_reducible apply w_tAnd | with_reducible apply w_tOr | with_reducible apply w_tNot | with_reducible apply w_tTrue | with_reducible apply w_and | with_reducible apply w_or | with_reducible apply w_not | with_reducible apply w_ifE | with_reducible apply w_isi | with_reducible apply w_dN | with_reducible apply w_d1 | ((with_reducible apply w_has); (apply x_has; rfl)) | ((with_reducible apply w_take); rfl) | ((with_reducible apply w_takeO); rfl) | with_reducible apply w_no | with_reducible apply w_at | with_reducible apply w_sl | with_reducible apply w_slV | with_reducible apply w_M1 | with_reducible apply w_fmt | with_reducible apply w_js0 | with_reducible apply w_js | with_reducible apply w_iAny | with_reducible apply w_iR1 | with_reducible apply w_iR2 | with_reducible apply w_for | with_reducible apply w_comp | with_reducible apply w_cc | with_reducible apply w_cn | with_reducible apply w_skip | with_reducible apply w_expr | with_reducible apply w_unp | with_reducible apply w_par2 | with_reducible apply w_par3 | with_reducible apply w_emp | with_reducible apply w_setObj | with_reducible apply w_raise | with_reducible apply w_catch | dsimp only [List.set_cons_zero, List.set_cons_succ, wipeD, frz_v, frz_o, frz_d] | ((with_reducible apply x_t); rfl) | ((with_reducible apply x_f); rfl) | ((with_reducible apply xi_int); rfl) | ((with_reducible apply xi_bool); rfl) | ((with_reducible apply xi_str); rfl) | ((with_reducible apply xi_tuple); rfl) | ((with_reducible apply xi_list); rfl) | ((with_reducible apply xi_dict); rfl) | ((with_reducible apply x_chain); rfl) | ((with_reducible apply x_bl); rfl) | ((with_reducible apply x_int); rfl) | ((with_reducible apply x_str); rfl) | ((with_reducible apply x_eq); rfl) | ((with_reducible apply x_intD); rfl) | ((with_reducible apply x_own); rfl) | ((with_reducible apply x_ow); rfl) | ((with_reducible apply x_owD); rfl) | ((with_reducible apply x_ob); rfl) | ((with_reducible apply x_mo); rfl) | ((with_reducible apply x_tp); rfl) | ((with_reducible apply x_intD2); rfl; rfl) | ((with_reducible apply x_le); exact Nat.le_of_ble_eq_true rfl))
  exact ⟨rfl, rfl⟩
/-! net_text -/
def lineT (l : Ln) : List Nat := numL l.1.toNat ++ 45 :: (numL l.2.1.toNat ++ 61 :: numL l.2.2.toNat)
def netT (p : Int) (ls : List Ln) : List Nat := joinL 32 ((numL p.toNat ++ [58]) :: ls.map lineT)
theorem numL3 {n : Nat} (h : n < 1000) : (numL n).length ≤ 3 := numL_len (k := 3) (by decide) h
theorem lineT_len {p : Int} {l : Ln} (h : okL p l) (hp : p ≤ 5) : (lineT l).length ≤ 11 := by
  unfold okL at h
  unfold lineT
  have h1 := numL3 (n := l.1.toNat) (by omega)
  have h2 := numL3 (n := l.2.1.toNat) (by omega)
  have h3 := numL3 (n := l.2.2.toNat) (by omega)
  simp only [List.length_append, List.length_cons]
  omega
theorem joinL_len {c : Nat} : ∀ ps : List (List Nat), (joinL c ps).length ≤ (ps.map List.length).sum + ps.length
  | [] => by simp [joinL]
  | [x] => by simp [joinL]
  | x :: y :: r => by
    have := joinL_len (c := c) (y :: r)
    simp only [joinL, List.length_append, List.length_cons, List.map_cons, List.sum_cons] at this ⊢
    omega
theorem joinL_all {c : Nat} {P : Nat → Prop} (hc : P c) : ∀ {ps : List (List Nat)}, (∀ p ∈ ps, ∀ x ∈ p, P x) → ∀ x ∈ joinL c ps, P x
  | [], _, x, h => by cases h
  | [p], hp, x, h => hp p (by simp) x h
  | p :: q :: r, hp, x, h => by
    simp only [joinL, List.mem_append, List.mem_cons] at h
    rcases h with h | rfl | h
    · exact hp p (by simp) x h
    · exact hc
    · exact joinL_all hc (fun p' h' => hp p' (List.mem_cons_of_mem _ h')) x h
theorem numL_lt' {n c : Nat} (h : c ∈ numL n) : 48 ≤ c ∧ c ≤ 57 := numL_digits n c h
theorem lineT_sign {l : Ln} {c : Nat} (h : c ∈ lineT l) : c = 45 ∨ c = 61 ∨ (48 ≤ c ∧ c ≤ 57) := by
  unfold lineT at h
  simp only [List.mem_append, List.mem_cons] at h
  rcases h with h | h | h | h | h
  · exact .inr (.inr (numL_lt' h))
  · exact .inl h
  · exact .inr (.inr (numL_lt' h))
  · exact .inr (.inl h)
  · exact .inr (.inr (numL_lt' h))
theorem parts_len {p : Int} {ls : List Ln} (o : NetOk p ls) : ((((numL p.toNat ++ [58]) :: ls.map lineT).map List.length).sum + ((numL p.toNat ++ [58]) :: ls.map lineT).length) ≤ 200 := by
  have h1 := numL3 (n := p.toNat) (by have := o.p5; omega)
  have h2 := sum_le (B := 11) (ps := (ls.map lineT).map List.length) (fun x hx => by
    obtain ⟨y, hy, rfl⟩ := List.mem_map.mp hx
    obtain ⟨l, hl, rfl⟩ := List.mem_map.mp hy
    exact lineT_len (o.lines l hl) o.p5)
  have h3 := o.len
  simp only [List.map_cons, List.sum_cons, List.length_append, List.length_cons, List.length_nil, List.length_map] at h2 ⊢
  omega
theorem netT_len {p : Int} {ls : List Ln} (o : NetOk p ls) : (netT p ls).length ≤ 200 := Nat.le_trans (joinL_len _) (parts_len o)
theorem netT_sign {p : Int} {ls : List Ln} {c : Nat} (h : c ∈ netT p ls) : c < 0x110000 := by
  refine joinL_all (c := 32) (P := fun x => x < 0x110000) (by decide) (fun q hq x hx => ?_) c h
  rcases List.mem_cons.mp hq with rfl | hq
  · rcases List.mem_append.mp hx with hx | hx
    · have := numL_lt' hx; omega
    · rw [List.mem_singleton.mp hx]; decide
  · obtain ⟨l, _, rfl⟩ := List.mem_map.mp hq
    rcases lineT_sign hx with h | h | h <;> omega
theorem netT_ok {p : Int} {ls : List Ln} (o : NetOk p ls) : okC (netT p ls) = true := by
  unfold okC
  rw [Bool.and_eq_true, List.all_eq_true, decide_eq_true_eq]
  exact ⟨fun c hc => by simpa using netT_sign hc, Nat.le_trans (netT_len o) (by decide)⟩
theorem sT_lim {l : List Nat} (h : l.length ≤ 1000) : (sT l).length ≤ lim := by rw [sT_len]; exact lim_ge h
theorem okC_small {l : List Nat} (h : ∀ c ∈ l, c < 0x110000) (hl : l.length ≤ 1000) : okC l = true := by
  unfold okC
  rw [Bool.and_eq_true, List.all_eq_true, decide_eq_true_eq]
  exact ⟨fun c hc => by simpa using h c hc, lim_ge hl⟩
theorem lineT_okC {p : Int} {l : Ln} (h : okL p l) (hp : p ≤ 5) : okC (lineT l) = true :=
  okC_small (fun c hc => by rcases lineT_sign hc with h | h | h <;> omega) (by have := lineT_len h hp; omega)
theorem net_text_ok {p : Int} {ls : List Ln} (o : NetOk p ls) (M : List MO) : r_net_text [netD p ls] M = .ok (.val (.str (sT (netT p ls)))) ⟨[], M⟩ := by
  refine Ww.to_eq (in_net_text ?_)
  unfold db_net_text netD
  rw [s_space, s_colon, s_dash, s_eq, s_empty]
  have hp2 := o.p2; have hp5 := o.p5
  have hl : ∀ n : Nat, (sT [] ++ sT (numL p.toNat)).length ≤ lim := fun _ => by rw [sT_app]; exact sT_lim (by have := numL3 (n := p.toNat) (by omega); simp; omega)
  have hl2 : (sT [] ++ sT (numL p.toNat) ++ sT [58]).length ≤ lim := by rw [sT_app, sT_app]; exact sT_lim (by have := numL3 (n := p.toNat) (by omega); simp; omega)
  repeat (first | with_reducible apply w_fmtI | with_reducible apply w_seq | with_reducible apply w_ret | with_reducible apply w_ifS | with_reducible apply w_set | with_reducible apply w_C | with_reducible apply w_nil | with_reducible apply w_cons | with_reducible apply w_tup | with_reducible apply w_lst | with_reducible apply w_d2 | ((with_reducible apply w_var); rfl) | ((with_reducible apply w_varO); rfl) | with_reducible apply w_call | with_reducible apply w_test | with_reducible apply w_V1 | with_reducible apply w_V2 | with_reducible apply w_W2 | with_reducible apply w_chain | with_reducible apply w_tAnd | with_reducible apply w_tOr | with_reducible apply w_tNot | with_reducible apply w_tTrue | with_reducible apply w_and | with_reducible apply w_or | with_reducible apply w_not | with_reducible apply w_ifE | with_reducible apply w_isi | with_reducible apply w_dN | with_reducible apply w_d1 | ((with_reducible apply w_has); (apply x_has; rfl)) | ((with_reducible apply w_take); rfl) | ((with_reducible apply w_takeO); rfl) | with_reducible apply w_no | with_reducible apply w_at | with_reducible apply w_sl | with_reducible apply w_slV | with_reducible apply w_M1 | with_reducible apply w_fmt | with_reducible apply w_js0 | with_reducible apply w_js | with_reducible apply w_iAny | with_reducible apply w_iR1 | with_reducible apply w_iR2 | with_reducible apply w_for | with_reducible apply w_comp | with_reducible apply w_cc | with_reducible apply w_cn | with_reducible apply w_skip | with_reducible apply w_expr | with_reducible apply w_unp | with_reducible apply w_par2 | with_reducible apply w_par3 | with_reducible apply w_emp | with_reducible apply w_setObj | with_reducible apply w_raise | with_reducible apply w_catch | dsimp only [List.set_cons_zero, List.set_cons_succ, wipeD, frz_v, frz_o, frz_d] | ((with_reducible apply x_t); rfl) | ((with_reducible apply x_f); rfl) | ((with_reducible apply xi_int); rfl) | ((with_reducible apply xi_bool); rfl) | ((with_reducible apply xi_str); rfl) | ((with_reducible apply xi_tuple); rfl) | ((with_reducible apply xi_list); rfl) | ((with_reducible apply xi_dict); rfl) | ((with_reducible apply x_chain); rfl) | ((with_reducible apply x_bl); rfl) | ((with_reducible apply x_int); rfl) | ((with_reducible apply x_str); rfl) | ((with_reducible apply x_eq); rfl) | ((with_reducible apply x_intD); rfl) | ((with_reducible apply x_own); rfl) | ((with_reducible apply x_ow); rfl) | ((with_reducible apply x_owD); rfl) | ((with_reducible apply x_ob); rfl) | ((with_reducible apply x_mo); rfl) | ((with_reducible apply x_tp); rfl) | ((with_reducible apply x_intD2); rfl; rfl) | ((with_reducible apply x_le); exact Nat.le_of_ble_eq_true rfl))
  refine ⟨by omega, ?_⟩
  repeat (first | with_reducible apply w_seq | with_reducible apply w_ret | with_reducible apply w_ifS | with_reducible apply w_set | with_reducible apply w_C | with_reducible apply w_nil | with_reducible apply w_cons | with_reducible apply w_tup | with_reducible apply w_lst | with_reducible apply w_d2 | ((with_reducible apply w_var); rfl) | ((with_reducible apply w_varO); rfl) | with_reducible apply w_call | with_reducible apply w_test | with_reducible apply w_V1 | with_reducible apply w_V2 | with_reducible apply w_W2 | with_reducible apply w_chain | with_reducible apply w_tAnd | with_reducible apply w_tOr | with_reducible apply w_tNot | with_reducible apply w_tTrue | with_reducible apply w_and | with_reducible apply w_or | with_reducible apply w_not | with_reducible apply w_ifE | with_reducible apply w_isi | with_reducible apply w_dN | with_reducible apply w_d1 | ((with_reducible apply w_has); (apply x_has; rfl)) | ((with_reducible apply w_take); rfl) | ((with_reducible apply w_takeO); rfl) | with_reducible apply w_no | with_reducible apply w_at | with_reducible apply w_sl | with_reducible apply w_slV | with_reducible apply w_M1 | with_reducible apply w_fmt | with_reducible apply w_js0 | with_reducible apply w_js | with_reducible apply w_iAny | with_reducible apply w_iR1 | with_reducible apply w_iR2 | with_reducible apply w_for | with_reducible apply w_comp | with_reducible apply w_cc | with_reducible apply w_cn | with_reducible apply w_skip | with_reducible apply w_expr | with_reducible apply w_unp | with_reducible apply w_par2 | with_reducible apply w_par3 | with_reducible apply w_emp | with_reducible apply w_setObj | with_reducible apply w_raise | with_reducible apply w_catch | dsimp only [List.set_cons_zero, List.set_cons_succ, wipeD, frz_v, frz_o, frz_d] | ((with_reducible apply x_t); rfl) | ((with_reducible apply x_f); rfl) | ((with_reducible apply xi_int); rfl) | ((with_reducible apply xi_bool); rfl) | ((with_reducible apply xi_str); rfl) | ((with_reducible apply xi_tuple); rfl) | ((with_reducible apply xi_list); rfl) | ((with_reducible apply xi_dict); rfl) | ((with_reducible apply x_chain); rfl) | ((with_reducible apply x_bl); rfl) | ((with_reducible apply x_int); rfl) | ((with_reducible apply x_str); rfl) | ((with_reducible apply x_eq); rfl) | ((with_reducible apply x_intD); rfl) | ((with_reducible apply x_own); rfl) | ((with_reducible apply x_ow); rfl) | ((with_reducible apply x_owD); rfl) | ((with_reducible apply x_ob); rfl) | ((with_reducible apply x_mo); rfl) | ((with_reducible apply x_tp); rfl) | ((with_reducible apply x_intD2); rfl; rfl) | ((with_reducible apply x_le); exact Nat.le_of_ble_eq_true rfl))
  refine ⟨hl 0, ?_⟩
  repeat (first | with_reducible apply w_seq | with_reducible apply w_ret | with_reducible apply w_ifS | with_reducible apply w_set | with_reducible apply w_C | with_reducible apply w_nil | with_reducible apply w_cons | with_reducible apply w_tup | with_reducible apply w_lst | with_reducible apply w_d2 | ((with_reducible apply w_var); rfl) | ((with_reducible apply w_varO); rfl) | with_reducible apply w_call | with_reducible apply w_test | with_reducible apply w_V1 | with_reducible apply w_V2 | with_reducible apply w_W2 | with_reducible apply w_chain | with_reducible apply w_tAnd | with_reducible apply w_tOr | with_reducible apply w_tNot | with_reducible apply w_tTrue | with_reducible apply w_and | with_reducible apply w_or | with_reducible apply w_not | with_reducible apply w_ifE | with_reducible apply w_isi | with_reducible apply w_dN | with_reducible apply w_d1 | ((with_reducible apply w_has); (apply x_has; rfl)) | ((with_reducible apply w_take); rfl) | ((with_reducible apply w_takeO); rfl) | with_reducible apply w_no | with_reducible apply w_at | with_reducible apply w_sl | with_reducible apply w_slV | with_reducible apply w_M1 | with_reducible apply w_fmt | with_reducible apply w_js0 | with_reducible apply w_js | with_reducible apply w_iAny | with_reducible apply w_iR1 | with_reducible apply w_iR2 | with_reducible apply w_for | with_reducible apply w_comp | with_reducible apply w_cc | with_reducible apply w_cn | with_reducible apply w_skip | with_reducible apply w_expr | with_reducible apply w_unp | with_reducible apply w_par2 | with_reducible apply w_par3 | with_reducible apply w_emp | with_reducible apply w_setObj | with_reducible apply w_raise | with_reducible apply w_catch | dsimp only [List.set_cons_zero, List.set_cons_succ, wipeD, frz_v, frz_o, frz_d] | ((with_reducible apply x_t); rfl) | ((with_reducible apply x_f); rfl) | ((with_reducible apply xi_int); rfl) | ((with_reducible apply xi_bool); rfl) | ((with_reducible apply xi_str); rfl) | ((with_reducible apply xi_tuple); rfl) | ((with_reducible apply xi_list); rfl) | ((with_reducible apply xi_dict); rfl) | ((with_reducible apply x_chain); rfl) | ((with_reducible apply x_bl); rfl) | ((with_reducible apply x_int); rfl) | ((with_reducible apply x_str); rfl) | ((with_reducible apply x_eq); rfl) | ((with_reducible apply x_intD); rfl) | ((with_reducible apply x_own); rfl) | ((with_reducible apply x_ow); rfl) | ((with_reducible apply x_owD); rfl) | ((with_reducible apply x_ob); rfl) | ((with_reducible apply x_mo); rfl) | ((with_reducible apply x_tp); rfl) | ((with_reducible apply x_intD2); rfl; rfl) | ((with_reducible apply x_le); exact Nat.le_of_ble_eq_true rfl))
  refine ⟨hl2, ?_⟩
  rw [sT_app, sT_app]
  repeat (first | with_reducible apply w_seq | with_reducible apply w_ret | with_reducible apply w_ifS | with_reducible apply w_set | with_reducible apply w_C | with_reducible apply w_nil | with_reducible apply w_cons | with_reducible apply w_tup | with_reducible apply w_lst | with_reducible apply w_d2 | ((with_reducible apply w_var); rfl) | ((with_reducible apply w_varO); rfl) | with_reducible apply w_call | with_reducible apply w_test | with_reducible apply w_V1 | with_reducible apply w_V2 | with_reducible apply w_W2 | with_reducible apply w_chain | with_reducible apply w_tAnd | with_reducible apply w_tOr | with_reducible apply w_tNot | with_reducible apply w_tTrue | with_reducible apply w_and | with_reducible apply w_or | with_reducible apply w_not | with_reducible apply w_ifE | with_reducible apply w_isi | with_reducible apply w_dN | with_reducible apply w_d1 | ((with_reducible apply w_has); (apply x_has; rfl)) | ((with_reducible apply w_take); rfl) | ((with_reducible apply w_takeO); rfl) | with_reducible apply w_no | with_reducible apply w_at | with_reducible apply w_sl | with_reducible apply w_slV | with_reducible apply w_M1 | with_reducible apply w_fmt | with_reducible apply w_js0 | with_reducible apply w_js | with_reducible apply w_iAny | with_reducible apply w_iR1 | with_reducible apply w_iR2 | with_reducible apply w_for | with_reducible apply w_comp | with_reducible apply w_cc | with_reducible apply w_cn | with_reducible apply w_skip | with_reducible apply w_expr | with_reducible apply w_unp | with_reducible apply w_par2 | with_reducible apply w_par3 | with_reducible apply w_emp | with_reducible apply w_setObj | with_reducible apply w_raise | with_reducible apply w_catch | dsimp only [List.set_cons_zero, List.set_cons_succ, wipeD, frz_v, frz_o, frz_d] | ((with_reducible apply x_t); rfl) | ((with_reducible apply x_f); rfl) | ((with_reducible apply xi_int); rfl) | ((with_reducible apply xi_bool); rfl) | ((with_reducible apply xi_str); rfl) | ((with_reducible apply xi_tuple); rfl) | ((with_reducible apply xi_list); rfl) | ((with_reducible apply xi_dict); rfl) | ((with_reducible apply x_chain); rfl) | ((with_reducible apply x_bl); rfl) | ((with_reducible apply x_int); rfl) | ((with_reducible apply x_str); rfl) | ((with_reducible apply x_eq); rfl) | ((with_reducible apply x_intD); rfl) | ((with_reducible apply x_own); rfl) | ((with_reducible apply x_ow); rfl) | ((with_reducible apply x_owD); rfl) | ((with_reducible apply x_ob); rfl) | ((with_reducible apply x_mo); rfl) | ((with_reducible apply x_tp); rfl) | ((with_reducible apply x_intD2); rfl; rfl) | ((with_reducible apply x_le); exact Nat.le_of_ble_eq_true rfl))
  rw [List.nil_append]
  have hA : okC (numL p.toNat ++ [58]) = true := by
    refine okC_small (fun c hc => ?_) (by have := numL3 (n := p.toNat) (by omega); simp; omega)
    rcases List.mem_append.mp hc with hc | hc
    · have := numL_lt' hc; omega
    · rw [List.mem_singleton.mp hc]; decide
  refine ⟨by rw [okS_sT]; exact hA, ?_⟩
  repeat (first | with_reducible apply w_seq | with_reducible apply w_ret | with_reducible apply w_ifS | with_reducible apply w_set | with_reducible apply w_C | with_reducible apply w_nil | with_reducible apply w_cons | with_reducible apply w_tup | with_reducible apply w_lst | with_reducible apply w_d2 | ((with_reducible apply w_var); rfl) | ((with_reducible apply w_varO); rfl) | with_reducible apply w_call | with_reducible apply w_test | with_reducible apply w_V1 | with_reducible apply w_V2 | with_reducible apply w_W2 | with_reducible apply w_chain | with_reducible apply w_tAnd | with_reducible apply w_tOr | with_reducible apply w_tNot | with_reducible apply w_tTrue | with_reducible apply w_and | with_reducible apply w_or | with_reducible apply w_not | with_reducible apply w_ifE | with_reducible apply w_isi | with_reducible apply w_dN | with_reducible apply w_d1 | ((with_reducible apply w_has); (apply x_has; rfl)) | ((with_reducible apply w_take); rfl) | ((with_reducible apply w_takeO); rfl) | with_reducible apply w_no | with_reducible apply w_at | with_reducible apply w_sl | with_reducible apply w_slV | with_reducible apply w_M1 | with_reducible apply w_fmt | with_reducible apply w_js0 | with_reducible apply w_js | with_reducible apply w_iAny | with_reducible apply w_iR1 | with_reducible apply w_iR2 | with_reducible apply w_for | with_reducible apply w_comp | with_reducible apply w_cc | with_reducible apply w_cn | with_reducible apply w_skip | with_reducible apply w_expr | with_reducible apply w_unp | with_reducible apply w_par2 | with_reducible apply w_par3 | with_reducible apply w_emp | with_reducible apply w_setObj | with_reducible apply w_raise | with_reducible apply w_catch | dsimp only [List.set_cons_zero, List.set_cons_succ, wipeD, frz_v, frz_o, frz_d] | ((with_reducible apply x_t); rfl) | ((with_reducible apply x_f); rfl) | ((with_reducible apply xi_int); rfl) | ((with_reducible apply xi_bool); rfl) | ((with_reducible apply xi_str); rfl) | ((with_reducible apply xi_tuple); rfl) | ((with_reducible apply xi_list); rfl) | ((with_reducible apply xi_dict); rfl) | ((with_reducible apply x_chain); rfl) | ((with_reducible apply x_bl); rfl) | ((with_reducible apply x_int); rfl) | ((with_reducible apply x_str); rfl) | ((with_reducible apply x_eq); rfl) | ((with_reducible apply x_intD); rfl) | ((with_reducible apply x_own); rfl) | ((with_reducible apply x_ow); rfl) | ((with_reducible apply x_owD); rfl) | ((with_reducible apply x_ob); rfl) | ((with_reducible apply x_mo); rfl) | ((with_reducible apply x_tp); rfl) | ((with_reducible apply x_intD2); rfl; rfl) | ((with_reducible apply x_le); exact Nat.le_of_ble_eq_true rfl))
  refine comp_g (at3 1 2 3) (fun _ => true) (fun d => match d with
    | .tup [.int i, .int j, .int r] => .str (sT (lineT (i, j, r)))
    | _ => .non) (fun d hd r hr => set3 (by obtain ⟨l, _, rfl⟩ := List.mem_map.mp hd; exact ⟨_, _, _, rfl⟩) (by rw [hr]; simp) (by rw [hr]; simp) (by rw [hr]; simp) (by decide) (by decide) (by decide) (by simp) (by simp) (by simp))
    (fun d hd ρ' h1 h2 h3 => ⟨rfl, rfl⟩) (fun d hd _ ρ' h1 h2 h3 => ?_) ?_
  · obtain ⟨l, hl', rfl⟩ := List.mem_map.mp hd
    have hok := o.lines l hl'
    have hok' := hok
    unfold okL at hok'
    obtain ⟨x0, x1, x2, x3, rfl⟩ := len4 h2
    obtain ⟨a, b, c, e, e1, e2, e3⟩ := h3
    have e' : D.tup [.int l.1, .int l.2.1, .int l.2.2] = D.tup [a, b, c] := e
    simp only [D.tup.injEq, List.cons.injEq, and_true] at e'
    obtain ⟨rfl, rfl, rfl⟩ := e'
    simp only [List.getElem?_cons_zero, List.getElem?_cons_succ, Option.some.injEq] at e1 e2 e3
    subst e1 e2 e3
    have n1 := numL3 (n := l.1.toNat) (by omega)
    have n2 := numL3 (n := l.2.1.toNat) (by omega)
    have n3 := numL3 (n := l.2.2.toNat) (by omega)
    repeat (first | with_reducible apply w_fmtI | with_reducible apply w_seq | with_reducible apply w_ret | with_reducible apply w_ifS | with_reducible apply w_set | with_reducible apply w_C | with_reducible apply w_nil | with_reducible apply w_cons | with_reducible apply w_tup | with_reducible apply w_lst | with_reducible apply w_d2 | ((with_reducible apply w_var); rfl) | ((with_reducible apply w_varO); rfl) | with_reducible apply w_call | with_reducible apply w_test | with_reducible apply w_V1 | with_reducible apply w_V2 | with_reducible apply w_W2 | with_reducible apply w_chain | with_reducible apply w_tAnd | with_reducible apply w_tOr | with_reducible apply w_tNot | with_reducible apply w_tTrue | with_reducible apply w_and | with_reducible apply w_or | with_reducible apply w_not | with_reducible apply w_ifE | with_reducible apply w_isi | with_reducible apply w_dN | with_reducible apply w_d1 | ((with_reducible apply w_has); (apply x_has; rfl)) | ((with_reducible apply w_take); rfl) | ((with_reducible apply w_takeO); rfl) | with_reducible apply w_no | with_reducible apply w_at | with_reducible apply w_sl | with_reducible apply w_slV | with_reducible apply w_M1 | with_reducible apply w_fmt | with_reducible apply w_js0 | with_reducible apply w_js | with_reducible apply w_iAny | with_reducible apply w_iR1 | with_reducible apply w_iR2 | with_reducible apply w_for | with_reducible apply w_comp | with_reducible apply w_cc | with_reducible apply w_cn | with_reducible apply w_skip | with_reducible apply w_expr | with_reducible apply w_unp | with_reducible apply w_par2 | with_reducible apply w_par3 | with_reducible apply w_emp | with_reducible apply w_setObj | with_reducible apply w_raise | with_reducible apply w_catch | dsimp only [List.set_cons_zero, List.set_cons_succ, wipeD, frz_v, frz_o, frz_d] | ((with_reducible apply x_t); rfl) | ((with_reducible apply x_f); rfl) | ((with_reducible apply xi_int); rfl) | ((with_reducible apply xi_bool); rfl) | ((with_reducible apply xi_str); rfl) | ((with_reducible apply xi_tuple); rfl) | ((with_reducible apply xi_list); rfl) | ((with_reducible apply xi_dict); rfl) | ((with_reducible apply x_chain); rfl) | ((with_reducible apply x_bl); rfl) | ((with_reducible apply x_int); rfl) | ((with_reducible apply x_str); rfl) | ((with_reducible apply x_eq); rfl) | ((with_reducible apply x_intD); rfl) | ((with_reducible apply x_own); rfl) | ((with_reducible apply x_ow); rfl) | ((with_reducible apply x_owD); rfl) | ((with_reducible apply x_ob); rfl) | ((with_reducible apply x_mo); rfl) | ((with_reducible apply x_tp); rfl) | ((with_reducible apply x_intD2); rfl; rfl) | ((with_reducible apply x_le); exact Nat.le_of_ble_eq_true rfl))
    refine ⟨by omega, ?_⟩
    repeat (first | with_reducible apply w_seq | with_reducible apply w_ret | with_reducible apply w_ifS | with_reducible apply w_set | with_reducible apply w_C | with_reducible apply w_nil | with_reducible apply w_cons | with_reducible apply w_tup | with_reducible apply w_lst | with_reducible apply w_d2 | ((with_reducible apply w_var); rfl) | ((with_reducible apply w_varO); rfl) | with_reducible apply w_call | with_reducible apply w_test | with_reducible apply w_V1 | with_reducible apply w_V2 | with_reducible apply w_W2 | with_reducible apply w_chain | with_reducible apply w_tAnd | with_reducible apply w_tOr | with_reducible apply w_tNot | with_reducible apply w_tTrue | with_reducible apply w_and | with_reducible apply w_or | with_reducible apply w_not | with_reducible apply w_ifE | with_reducible apply w_isi | with_reducible apply w_dN | with_reducible apply w_d1 | ((with_reducible apply w_has); (apply x_has; rfl)) | ((with_reducible apply w_take); rfl) | ((with_reducible apply w_takeO); rfl) | with_reducible apply w_no | with_reducible apply w_at | with_reducible apply w_sl | with_reducible apply w_slV | with_reducible apply w_M1 | with_reducible apply w_fmt | with_reducible apply w_js0 | with_reducible apply w_js | with_reducible apply w_iAny | with_reducible apply w_iR1 | with_reducible apply w_iR2 | with_reducible apply w_for | with_reducible apply w_comp | with_reducible apply w_cc | with_reducible apply w_cn | with_reducible apply w_skip | with_reducible apply w_expr | with_reducible apply w_unp | with_reducible apply w_par2 | with_reducible apply w_par3 | with_reducible apply w_emp | with_reducible apply w_setObj | with_reducible apply w_raise | with_reducible apply w_catch | dsimp only [List.set_cons_zero, List.set_cons_succ, wipeD, frz_v, frz_o, frz_d] | ((with_reducible apply x_t); rfl) | ((with_reducible apply x_f); rfl) | ((with_reducible apply xi_int); rfl) | ((with_reducible apply xi_bool); rfl) | ((with_reducible apply xi_str); rfl) | ((with_reducible apply xi_tuple); rfl) | ((with_reducible apply xi_list); rfl) | ((with_reducible apply xi_dict); rfl) | ((with_reducible apply x_chain); rfl) | ((with_reducible apply x_bl); rfl) | ((with_reducible apply x_int); rfl) | ((with_reducible apply x_str); rfl) | ((with_reducible apply x_eq); rfl) | ((with_reducible apply x_intD); rfl) | ((with_reducible apply x_own); rfl) | ((with_reducible apply x_ow); rfl) | ((with_reducible apply x_owD); rfl) | ((with_reducible apply x_ob); rfl) | ((with_reducible apply x_mo); rfl) | ((with_reducible apply x_tp); rfl) | ((with_reducible apply x_intD2); rfl; rfl) | ((with_reducible apply x_le); exact Nat.le_of_ble_eq_true rfl))
    refine ⟨by rw [sT_app]; exact sT_lim (by simp; omega), ?_⟩
    rw [sT_app]
    repeat (first | with_reducible apply w_seq | with_reducible apply w_ret | with_reducible apply w_ifS | with_reducible apply w_set | with_reducible apply w_C | with_reducible apply w_nil | with_reducible apply w_cons | with_reducible apply w_tup | with_reducible apply w_lst | with_reducible apply w_d2 | ((with_reducible apply w_var); rfl) | ((with_reducible apply w_varO); rfl) | with_reducible apply w_call | with_reducible apply w_test | with_reducible apply w_V1 | with_reducible apply w_V2 | with_reducible apply w_W2 | with_reducible apply w_chain | with_reducible apply w_tAnd | with_reducible apply w_tOr | with_reducible apply w_tNot | with_reducible apply w_tTrue | with_reducible apply w_and | with_reducible apply w_or | with_reducible apply w_not | with_reducible apply w_ifE | with_reducible apply w_isi | with_reducible apply w_dN | with_reducible apply w_d1 | ((with_reducible apply w_has); (apply x_has; rfl)) | ((with_reducible apply w_take); rfl) | ((with_reducible apply w_takeO); rfl) | with_reducible apply w_no | with_reducible apply w_at | with_reducible apply w_sl | with_reducible apply w_slV | with_reducible apply w_M1 | with_reducible apply w_fmt | with_reducible apply w_js0 | with_reducible apply w_js | with_reducible apply w_iAny | with_reducible apply w_iR1 | with_reducible apply w_iR2 | with_reducible apply w_for | with_reducible apply w_comp | with_reducible apply w_cc | with_reducible apply w_cn | with_reducible apply w_skip | with_reducible apply w_expr | with_reducible apply w_unp | with_reducible apply w_par2 | with_reducible apply w_par3 | with_reducible apply w_emp | with_reducible apply w_setObj | with_reducible apply w_raise | with_reducible apply w_catch | dsimp only [List.set_cons_zero, List.set_cons_succ, wipeD, frz_v, frz_o, frz_d] | ((with_reducible apply x_t); rfl) | ((with_reducible apply x_f); rfl) | ((with_reducible apply xi_int); rfl) | ((with_reducible apply xi_bool); rfl) | ((with_reducible apply xi_str); rfl) | ((with_reducible apply xi_tuple); rfl) | ((with_reducible apply xi_list); rfl) | ((with_reducible apply xi_dict); rfl) | ((with_reducible apply x_chain); rfl) | ((with_reducible apply x_bl); rfl) | ((with_reducible apply x_int); rfl) | ((with_reducible apply x_str); rfl) | ((with_reducible apply x_eq); rfl) | ((with_reducible apply x_intD); rfl) | ((with_reducible apply x_own); rfl) | ((with_reducible apply x_ow); rfl) | ((with_reducible apply x_owD); rfl) | ((with_reducible apply x_ob); rfl) | ((with_reducible apply x_mo); rfl) | ((with_reducible apply x_tp); rfl) | ((with_reducible apply x_intD2); rfl; rfl) | ((with_reducible apply x_le); exact Nat.le_of_ble_eq_true rfl))
    refine ⟨by rw [sT_app]; exact sT_lim (by simp; omega), ?_⟩
    rw [sT_app]
    repeat (first | with_reducible apply w_fmtI | with_reducible apply w_seq | with_reducible apply w_ret | with_reducible apply w_ifS | with_reducible apply w_set | with_reducible apply w_C | with_reducible apply w_nil | with_reducible apply w_cons | with_reducible apply w_tup | with_reducible apply w_lst | with_reducible apply w_d2 | ((with_reducible apply w_var); rfl) | ((with_reducible apply w_varO); rfl) | with_reducible apply w_call | with_reducible apply w_test | with_reducible apply w_V1 | with_reducible apply w_V2 | with_reducible apply w_W2 | with_reducible apply w_chain | with_reducible apply w_tAnd | with_reducible apply w_tOr | with_reducible apply w_tNot | with_reducible apply w_tTrue | with_reducible apply w_and | with_reducible apply w_or | with_reducible apply w_not | with_reducible apply w_ifE | with_reducible apply w_isi | with_reducible apply w_dN | with_reducible apply w_d1 | ((with_reducible apply w_has); (apply x_has; rfl)) | ((with_reducible apply w_take); rfl) | ((with_reducible apply w_takeO); rfl) | with_reducible apply w_no | with_reducible apply w_at | with_reducible apply w_sl | with_reducible apply w_slV | with_reducible apply w_M1 | with_reducible apply w_fmt | with_reducible apply w_js0 | with_reducible apply w_js | with_reducible apply w_iAny | with_reducible apply w_iR1 | with_reducible apply w_iR2 | with_reducible apply w_for | with_reducible apply w_comp | with_reducible apply w_cc | with_reducible apply w_cn | with_reducible apply w_skip | with_reducible apply w_expr | with_reducible apply w_unp | with_reducible apply w_par2 | with_reducible apply w_par3 | with_reducible apply w_emp | with_reducible apply w_setObj | with_reducible apply w_raise | with_reducible apply w_catch | dsimp only [List.set_cons_zero, List.set_cons_succ, wipeD, frz_v, frz_o, frz_d] | ((with_reducible apply x_t); rfl) | ((with_reducible apply x_f); rfl) | ((with_reducible apply xi_int); rfl) | ((with_reducible apply xi_bool); rfl) | ((with_reducible apply xi_str); rfl) | ((with_reducible apply xi_tuple); rfl) | ((with_reducible apply xi_list); rfl) | ((with_reducible apply xi_dict); rfl) | ((with_reducible apply x_chain); rfl) | ((with_reducible apply x_bl); rfl) | ((with_reducible apply x_int); rfl) | ((with_reducible apply x_str); rfl) | ((with_reducible apply x_eq); rfl) | ((with_reducible apply x_intD); rfl) | ((with_reducible apply x_own); rfl) | ((with_reducible apply x_ow); rfl) | ((with_reducible apply x_owD); rfl) | ((with_reducible apply x_ob); rfl) | ((with_reducible apply x_mo); rfl) | ((with_reducible apply x_tp); rfl) | ((with_reducible apply x_intD2); rfl; rfl) | ((with_reducible apply x_le); exact Nat.le_of_ble_eq_true rfl))
    refine ⟨by omega, ?_⟩
    repeat (first | with_reducible apply w_seq | with_reducible apply w_ret | with_reducible apply w_ifS | with_reducible apply w_set | with_reducible apply w_C | with_reducible apply w_nil | with_reducible apply w_cons | with_reducible apply w_tup | with_reducible apply w_lst | with_reducible apply w_d2 | ((with_reducible apply w_var); rfl) | ((with_reducible apply w_varO); rfl) | with_reducible apply w_call | with_reducible apply w_test | with_reducible apply w_V1 | with_reducible apply w_V2 | with_reducible apply w_W2 | with_reducible apply w_chain | with_reducible apply w_tAnd | with_reducible apply w_tOr | with_reducible apply w_tNot | with_reducible apply w_tTrue | with_reducible apply w_and | with_reducible apply w_or | with_reducible apply w_not | with_reducible apply w_ifE | with_reducible apply w_isi | with_reducible apply w_dN | with_reducible apply w_d1 | ((with_reducible apply w_has); (apply x_has; rfl)) | ((with_reducible apply w_take); rfl) | ((with_reducible apply w_takeO); rfl) | with_reducible apply w_no | with_reducible apply w_at | with_reducible apply w_sl | with_reducible apply w_slV | with_reducible apply w_M1 | with_reducible apply w_fmt | with_reducible apply w_js0 | with_reducible apply w_js | with_reducible apply w_iAny | with_reducible apply w_iR1 | with_reducible apply w_iR2 | with_reducible apply w_for | with_reducible apply w_comp | with_reducible apply w_cc | with_reducible apply w_cn | with_reducible apply w_skip | with_reducible apply w_expr | with_reducible apply w_unp | with_reducible apply w_par2 | with_reducible apply w_par3 | with_reducible apply w_emp | with_reducible apply w_setObj | with_reducible apply w_raise | with_reducible apply w_catch | dsimp only [List.set_cons_zero, List.set_cons_succ, wipeD, frz_v, frz_o, frz_d] | ((with_reducible apply x_t); rfl) | ((with_reducible apply x_f); rfl) | ((with_reducible apply xi_int); rfl) | ((with_reducible apply xi_bool); rfl) | ((with_reducible apply xi_str); rfl) | ((with_reducible apply xi_tuple); rfl) | ((with_reducible apply xi_list); rfl) | ((with_reducible apply xi_dict); rfl) | ((with_reducible apply x_chain); rfl) | ((with_reducible apply x_bl); rfl) | ((with_reducible apply x_int); rfl) | ((with_reducible apply x_str); rfl) | ((with_reducible apply x_eq); rfl) | ((with_reducible apply x_intD); rfl) | ((with_reducible apply x_own); rfl) | ((with_reducible apply x_ow); rfl) | ((with_reducible apply x_owD); rfl) | ((with_reducible apply x_ob); rfl) | ((with_reducible apply x_mo); rfl) | ((with_reducible apply x_tp); rfl) | ((with_reducible apply x_intD2); rfl; rfl) | ((with_reducible apply x_le); exact Nat.le_of_ble_eq_true rfl))
    refine ⟨by rw [sT_app]; exact sT_lim (by simp; omega), ?_⟩
    rw [sT_app]
    repeat (first | with_reducible apply w_seq | with_reducible apply w_ret | with_reducible apply w_ifS | with_reducible apply w_set | with_reducible apply w_C | with_reducible apply w_nil | with_reducible apply w_cons | with_reducible apply w_tup | with_reducible apply w_lst | with_reducible apply w_d2 | ((with_reducible apply w_var); rfl) | ((with_reducible apply w_varO); rfl) | with_reducible apply w_call | with_reducible apply w_test | with_reducible apply w_V1 | with_reducible apply w_V2 | with_reducible apply w_W2 | with_reducible apply w_chain | with_reducible apply w_tAnd | with_reducible apply w_tOr | with_reducible apply w_tNot | with_reducible apply w_tTrue | with_reducible apply w_and | with_reducible apply w_or | with_reducible apply w_not | with_reducible apply w_ifE | with_reducible apply w_isi | with_reducible apply w_dN | with_reducible apply w_d1 | ((with_reducible apply w_has); (apply x_has; rfl)) | ((with_reducible apply w_take); rfl) | ((with_reducible apply w_takeO); rfl) | with_reducible apply w_no | with_reducible apply w_at | with_reducible apply w_sl | with_reducible apply w_slV | with_reducible apply w_M1 | with_reducible apply w_fmt | with_reducible apply w_js0 | with_reducible apply w_js | with_reducible apply w_iAny | with_reducible apply w_iR1 | with_reducible apply w_iR2 | with_reducible apply w_for | with_reducible apply w_comp | with_reducible apply w_cc | with_reducible apply w_cn | with_reducible apply w_skip | with_reducible apply w_expr | with_reducible apply w_unp | with_reducible apply w_par2 | with_reducible apply w_par3 | with_reducible apply w_emp | with_reducible apply w_setObj | with_reducible apply w_raise | with_reducible apply w_catch | dsimp only [List.set_cons_zero, List.set_cons_succ, wipeD, frz_v, frz_o, frz_d] | ((with_reducible apply x_t); rfl) | ((with_reducible apply x_f); rfl) | ((with_reducible apply xi_int); rfl) | ((with_reducible apply xi_bool); rfl) | ((with_reducible apply xi_str); rfl) | ((with_reducible apply xi_tuple); rfl) | ((with_reducible apply xi_list); rfl) | ((with_reducible apply xi_dict); rfl) | ((with_reducible apply x_chain); rfl) | ((with_reducible apply x_bl); rfl) | ((with_reducible apply x_int); rfl) | ((with_reducible apply x_str); rfl) | ((with_reducible apply x_eq); rfl) | ((with_reducible apply x_intD); rfl) | ((with_reducible apply x_own); rfl) | ((with_reducible apply x_ow); rfl) | ((with_reducible apply x_owD); rfl) | ((with_reducible apply x_ob); rfl) | ((with_reducible apply x_mo); rfl) | ((with_reducible apply x_tp); rfl) | ((with_reducible apply x_intD2); rfl; rfl) | ((with_reducible apply x_le); exact Nat.le_of_ble_eq_true rfl))
    refine ⟨by rw [sT_app]; exact sT_lim (by simp; omega), ?_⟩
    rw [sT_app]
    repeat (first | with_reducible apply w_fmtI | with_reducible apply w_seq | with_reducible apply w_ret | with_reducible apply w_ifS | with_reducible apply w_set | with_reducible apply w_C | with_reducible apply w_nil | with_reducible apply w_cons | with_reducible apply w_tup | with_reducible apply w_lst | with_reducible apply w_d2 | ((with_reducible apply w_var); rfl) | ((with_reducible apply w_varO); rfl) | with_reducible apply w_call | with_reducible apply w_test | with_reducible apply w_V1 | with_reducible apply w_V2 | with_reducible apply w_W2 | with_reducible apply w_chain | with_reducible apply w_tAnd | with_reducible apply w_tOr | with_reducible apply w_tNot | with_reducible apply w_tTrue | with_reducible apply w_and | with_reducible apply w_or | with_reducible apply w_not | with_reducible apply w_ifE | with_reducible apply w_isi | with_reducible apply w_dN | with_reducible apply w_d1 | ((with_reducible apply w_has); (apply x_has; rfl)) | ((with_reducible apply w_take); rfl) | ((with_reducible apply w_takeO); rfl) | with_reducible apply w_no | with_reducible apply w_at | with_reducible apply w_sl | with_reducible apply w_slV | with_reducible apply w_M1 | with_reducible apply w_fmt | with_reducible apply w_js0 | with_reducible apply w_js | with_reducible apply w_iAny | with_reducible apply w_iR1 | with_reducible apply w_iR2 | with_reducible apply w_for | with_reducible apply w_comp | with_reducible apply w_cc | with_reducible apply w_cn | with_reducible apply w_skip | with_reducible apply w_expr | with_reducible apply w_unp | with_reducible apply w_par2 | with_reducible apply w_par3 | with_reducible apply w_emp | with_reducible apply w_setObj | with_reducible apply w_raise | with_reducible apply w_catch | dsimp only [List.set_cons_zero, List.set_cons_succ, wipeD, frz_v, frz_o, frz_d] | ((with_reducible apply x_t); rfl) | ((with_reducible apply x_f); rfl) | ((with_reducible apply xi_int); rfl) | ((with_reducible apply xi_bool); rfl) | ((with_reducible apply xi_str); rfl) | ((with_reducible apply xi_tuple); rfl) | ((with_reducible apply xi_list); rfl) | ((with_reducible apply xi_dict); rfl) | ((with_reducible apply x_chain); rfl) | ((with_reducible apply x_bl); rfl) | ((with_reducible apply x_int); rfl) | ((with_reducible apply x_str); rfl) | ((with_reducible apply x_eq); rfl) | ((with_reducible apply x_intD); rfl) | ((with_reducible apply x_own); rfl) | ((with_reducible apply x_ow); rfl) | ((with_reducible apply x_owD); rfl) | ((with_reducible apply x_ob); rfl) | ((with_reducible apply x_mo); rfl) | ((with_reducible apply x_tp); rfl) | ((with_reducible apply x_intD2); rfl; rfl) | ((with_reducible apply x_le); exact Nat.le_of_ble_eq_true rfl))
    refine ⟨by omega, ?_⟩
    repeat (first | with_reducible apply w_seq | with_reducible apply w_ret | with_reducible apply w_ifS | with_reducible apply w_set | with_reducible apply w_C | with_reducible apply w_nil | with_reducible apply w_cons | with_reducible apply w_tup | with_reducible apply w_lst | with_reducible apply w_d2 | ((with_reducible apply w_var); rfl) | ((with_reducible apply w_varO); rfl) | with_reducible apply w_call | with_reducible apply w_test | with_reducible apply w_V1 | with_reducible apply w_V2 | with_reducible apply w_W2 | with_reducible apply w_chain | with_reducible apply w_tAnd | with_reducible apply w_tOr | with_reducible apply w_tNot | with_reducible apply w_tTrue | with_reducible apply w_and | with_reducible apply w_or | with_reducible apply w_not | with_reducible apply w_ifE | with_reducible apply w_isi | with_reducible apply w_dN | with_reducible apply w_d1 | ((with_reducible apply w_has); (apply x_has; rfl)) | ((with_reducible apply w_take); rfl) | ((with_reducible apply w_takeO); rfl) | with_reducible apply w_no | with_reducible apply w_at | with_reducible apply w_sl | with_reducible apply w_slV | with_reducible apply w_M1 | with_reducible apply w_fmt | with_reducible apply w_js0 | with_reducible apply w_js | with_reducible apply w_iAny | with_reducible apply w_iR1 | with_reducible apply w_iR2 | with_reducible apply w_for | with_reducible apply w_comp | with_reducible apply w_cc | with_reducible apply w_cn | with_reducible apply w_skip | with_reducible apply w_expr | with_reducible apply w_unp | with_reducible apply w_par2 | with_reducible apply w_par3 | with_reducible apply w_emp | with_reducible apply w_setObj | with_reducible apply w_raise | with_reducible apply w_catch | dsimp only [List.set_cons_zero, List.set_cons_succ, wipeD, frz_v, frz_o, frz_d] | ((with_reducible apply x_t); rfl) | ((with_reducible apply x_f); rfl) | ((with_reducible apply xi_int); rfl) | ((with_reducible apply xi_bool); rfl) | ((with_reducible apply xi_str); rfl) | ((with_reducible apply xi_tuple); rfl) | ((with_reducible apply xi_list); rfl) | ((with_reducible apply xi_dict); rfl) | ((with_reducible apply x_chain); rfl) | ((with_reducible apply x_bl); rfl) | ((with_reducible apply x_int); rfl) | ((with_reducible apply x_str); rfl) | ((with_reducible apply x_eq); rfl) | ((with_reducible apply x_intD); rfl) | ((with_reducible apply x_own); rfl) | ((with_reducible apply x_ow); rfl) | ((with_reducible apply x_owD); rfl) | ((with_reducible apply x_ob); rfl) | ((with_reducible apply x_mo); rfl) | ((with_reducible apply x_tp); rfl) | ((with_reducible apply x_intD2); rfl; rfl) | ((with_reducible apply x_le); exact Nat.le_of_ble_eq_true rfl))
    refine ⟨by rw [sT_app]; exact sT_lim (by simp; omega), ?_⟩
    rw [sT_app]
    have et : [] ++ numL l.1.toNat ++ [45] ++ numL l.2.1.toNat ++ [61] ++ numL l.2.2.toNat = lineT l := by
      unfold lineT; simp
    rw [et]
    repeat (first | with_reducible apply w_seq | with_reducible apply w_ret | with_reducible apply w_ifS | with_reducible apply w_set | with_reducible apply w_C | with_reducible apply w_nil | with_reducible apply w_cons | with_reducible apply w_tup | with_reducible apply w_lst | with_reducible apply w_d2 | ((with_reducible apply w_var); rfl) | ((with_reducible apply w_varO); rfl) | with_reducible apply w_call | with_reducible apply w_test | with_reducible apply w_V1 | with_reducible apply w_V2 | with_reducible apply w_W2 | with_reducible apply w_chain | with_reducible apply w_tAnd | with_reducible apply w_tOr | with_reducible apply w_tNot | with_reducible apply w_tTrue | with_reducible apply w_and | with_reducible apply w_or | with_reducible apply w_not | with_reducible apply w_ifE | with_reducible apply w_isi | with_reducible apply w_dN | with_reducible apply w_d1 | ((with_reducible apply w_has); (apply x_has; rfl)) | ((with_reducible apply w_take); rfl) | ((with_reducible apply w_takeO); rfl) | with_reducible apply w_no | with_reducible apply w_at | with_reducible apply w_sl | with_reducible apply w_slV | with_reducible apply w_M1 | with_reducible apply w_fmt | with_reducible apply w_js0 | with_reducible apply w_js | with_reducible apply w_iAny | with_reducible apply w_iR1 | with_reducible apply w_iR2 | with_reducible apply w_for | with_reducible apply w_comp | with_reducible apply w_cc | with_reducible apply w_cn | with_reducible apply w_skip | with_reducible apply w_expr | with_reducible apply w_unp | with_reducible apply w_par2 | with_reducible apply w_par3 | with_reducible apply w_emp | with_reducible apply w_setObj | with_reducible apply w_raise | with_reducible apply w_catch | dsimp only [List.set_cons_zero, List.set_cons_succ, wipeD, frz_v, frz_o, frz_d] | ((with_reducible apply x_t); rfl) | ((with_reducible apply x_f); rfl) | ((with_reducible apply xi_int); rfl) | ((with_reducible apply xi_bool); rfl) | ((with_reducible apply xi_str); rfl) | ((with_reducible apply xi_tuple); rfl) | ((with_reducible apply xi_list); rfl) | ((with_reducible apply xi_dict); rfl) | ((with_reducible apply x_chain); rfl) | ((with_reducible apply x_bl); rfl) | ((with_reducible apply x_int); rfl) | ((with_reducible apply x_str); rfl) | ((with_reducible apply x_eq); rfl) | ((with_reducible apply x_intD); rfl) | ((with_reducible apply x_own); rfl) | ((with_reducible apply x_ow); rfl) | ((with_reducible apply x_owD); rfl) | ((with_reducible apply x_ob); rfl) | ((with_reducible apply x_mo); rfl) | ((with_reducible apply x_tp); rfl) | ((with_reducible apply x_intD2); rfl; rfl) | ((with_reducible apply x_le); exact Nat.le_of_ble_eq_true rfl))
    refine ⟨by rw [okS_sT]; exact lineT_okC hok hp5, ?_⟩
    exact ⟨rfl, rfl⟩
  · rw [flt_true]
    have em : (ls.map lnD).map (fun d => match d with
        | .tup [.int i, .int j, .int r] => D.str (sT (lineT (i, j, r)))
        | _ => .non) = (ls.map lineT).map fun q => D.str (sT q) := by
      rw [List.map_map, List.map_map]; rfl
    rw [em]
    have ea : oAdd (.lst [D.str (sT (numL p.toNat ++ [58]))]) (.lst ((ls.map lineT).map fun q => D.str (sT q))) = some (.own (((numL p.toNat ++ [58]) :: ls.map lineT).map fun q => D.str (sT q))) := by
      unfold oAdd
      dsimp only
      rw [if_pos (lim_ge (by have := o.len; simp; omega))]
      rfl
    repeat (first | ((with_reducible apply x_eq); with_reducible exact ea) | with_reducible apply w_seq | with_reducible apply w_ret | with_reducible apply w_ifS | with_reducible apply w_set | with_reducible apply w_C | with_reducible apply w_nil | with_reducible apply w_cons | with_reducible apply w_tup | with_reducible apply w_lst | with_reducible apply w_d2 | ((with_reducible apply w_var); rfl) | ((with_reducible apply w_varO); rfl) | with_reducible apply w_call | with_reducible apply w_test | with_reducible apply w_V1 | with_reducible apply w_V2 | with_reducible apply w_W2 | with_reducible apply w_chain | with_reducible apply w_tAnd | with_reducible apply w_tOr | with_reducible apply w_tNot | with_reducible apply w_tTrue | with_reducible apply w_and | with_reducible apply w_or | with_reducible apply w_not | with_reducible apply w_ifE | with_reducible apply w_isi | with_reducible apply w_dN | with_reducible apply w_d1 | ((with_reducible apply w_has); (apply x_has; rfl)) | ((with_reducible apply w_take); rfl) | ((with_reducible apply w_takeO); rfl) | with_reducible apply w_no | with_reducible apply w_at | with_reducible apply w_sl | with_reducible apply w_slV | with_reducible apply w_M1 | with_reducible apply w_fmt | with_reducible apply w_js0 | with_reducible apply w_js | with_reducible apply w_iAny | with_reducible apply w_iR1 | with_reducible apply w_iR2 | with_reducible apply w_for | with_reducible apply w_comp | with_reducible apply w_cc | with_reducible apply w_cn | with_reducible apply w_skip | with_reducible apply w_expr | with_reducible apply w_unp | with_reducible apply w_par2 | with_reducible apply w_par3 | with_reducible apply w_emp | with_reducible apply w_setObj | with_reducible apply w_raise | with_reducible apply w_catch | dsimp only [List.set_cons_zero, List.set_cons_succ, wipeD, frz_v, frz_o, frz_d] | ((with_reducible apply x_t); rfl) | ((with_reducible apply x_f); rfl) | ((with_reducible apply xi_int); rfl) | ((with_reducible apply xi_bool); rfl) | ((with_reducible apply xi_str); rfl) | ((with_reducible apply xi_tuple); rfl) | ((with_reducible apply xi_list); rfl) | ((with_reducible apply xi_dict); rfl) | ((with_reducible apply x_chain); rfl) | ((with_reducible apply x_bl); rfl) | ((with_reducible apply x_int); rfl) | ((with_reducible apply x_str); rfl) | ((with_reducible apply x_eq); rfl) | ((with_reducible apply x_intD); rfl) | ((with_reducible apply x_own); rfl) | ((with_reducible apply x_ow); rfl) | ((with_reducible apply x_owD); rfl) | ((with_reducible apply x_ob); rfl) | ((with_reducible apply x_mo); rfl) | ((with_reducible apply x_tp); rfl) | ((with_reducible apply x_intD2); rfl; rfl) | ((with_reducible apply x_le); exact Nat.le_of_ble_eq_true rfl))
    refine x_eq (oJoin_ok (netT_ok o) (Nat.le_trans (parts_len o) (by decide))) ?_
    exact ⟨rfl, rfl⟩
/-! parse_net -/
theorem numD_top (l : List Nat) : top1 (numD l) = true := by
  unfold numD
  split <;> rfl
theorem lineOfD_good (l : List Nat) : goodL (lineOfD l) = true := by
  show (true && (top1 _ && (top1 _ && (top1 _ && true)))) = true
  rw [numD_top, numD_top, numD_top]; rfl
/-- all but the last sign -/
def foundOf (l : List Nat) : D := match splitL 32 l with
  | [] => .non
  | w :: ws => .tup [numD w.dropLast, .tup (ws.map lineOfD)]
theorem foundOf_good (l : List Nat) : goodV (foundOf l) = true := by
  unfold foundOf
  cases splitL 32 l with
  | nil => rfl
  | cons w ws =>
    show (top1 (numD w.dropLast) && (ws.map lineOfD).all goodL) = true
    rw [numD_top, Bool.true_and, List.all_map, List.all_eq_true]
    exact fun x _ => lineOfD_good x
theorem cut_last (w : List Nat) : oSl none (some (-1)) (.str (sT w)) = some (.val (.str (sT w.dropLast))) := by
  show some (SV.val (.str (L2.cutS (sT w) none (some (-1))))) = _
  congr 3
  refine sT_eq ?_
  show ((sT w).cps.toList.drop 0).take (HT.sIx (sT w).length (sT w).length (some (-1)) - 0) = w.dropLast
  rw [sT_tl, sT_len, List.drop_zero, Nat.sub_zero, List.dropLast_eq_take]
  congr 1
  show (if (-1 : Int) < 0 then ((-1 : Int) + (w.length : Int)).toNat else min (-1 : Int).toNat w.length) = _
  rw [if_pos (by decide)]
  omega
theorem cut_tail (ds : List D) : oSl (some 1) none (.lst ds) = some (.own ds.tail) := by
  show some (SV.own (cutD ds (some 1) none)) = _
  congr 2
  show (ds.drop (HT.sIx ds.length 0 (some 1))).take (ds.length - HT.sIx ds.length 0 (some 1)) = _
  have e : HT.sIx ds.length 0 (some 1) = min 1 ds.length := rfl
  rw [e]
  cases ds with
  | nil => rfl
  | cons d r =>
    have : min 1 (d :: r).length = 1 := by simp
    rw [this]
    show r.take ((d :: r).length - 1) = r
    simp
/-- what parsing does: the net whose text it is, or none -/
theorem parse_ok {l : List Nat} (h : okC l = true) (M : List MO) :
    (∃ p ls, NetOk p ls ∧ netT p ls = l ∧ foundOf l = netD p ls ∧ r_parse_net [.str (sT l)] M = .ok (.val (netD p ls)) ⟨[], M⟩) ∨
    ((∀ p ls, NetOk p ls → foundOf l = netD p ls → netT p ls ≠ l) ∧ r_parse_net [.str (sT l)] M = .exc "InvalidText" M) := by
  suffices hW : Ww (fun C M' => (C = "InvalidText" ∧ M' = M) ∧ ∀ p ls, NetOk p ls → foundOf l = netD p ls → netT p ls ≠ l) (r_parse_net [.str (sT l)] M)
      (fun x s => (∃ p ls, NetOk p ls ∧ netT p ls = l ∧ foundOf l = netD p ls ∧ x = .val (netD p ls)) ∧ s = ⟨[], M⟩) by
    cases e : r_parse_net [.str (sT l)] M with
    | ok x s =>
      rw [e] at hW
      obtain ⟨⟨p, ls, h1, h2, h3, rfl⟩, rfl⟩ := hW
      exact .inl ⟨p, ls, h1, h2, h3, rfl⟩
    | exc C M' =>
      rw [e] at hW
      obtain ⟨⟨rfl, rfl⟩, h2⟩ := hW
      exact .inr ⟨h2, rfl⟩
    | bad => rw [e] at hW; exact hW.1.elim
  generalize hX : (fun (C : Str) (M' : List MO) => (C = "InvalidText" ∧ M' = M) ∧ ∀ p ls, NetOk p ls → foundOf l = netD p ls → netT p ls ≠ l) = X
  generalize hQ : (fun (x : SV) (s : Sx) => (∃ p ls, NetOk p ls ∧ netT p ls = l ∧ foundOf l = netD p ls ∧ x = .val (netD p ls)) ∧ s = ⟨[], M⟩) = Q
  refine in_parse_net ?_
  unfold db_parse_net
  rw [s_space]
  obtain ⟨w, ws, hw⟩ : ∃ w ws, splitL 32 l = w :: ws := by
    cases e : splitL 32 l with
    | nil => exact absurd e (splitL_ne 32 l)
    | cons w ws => exact ⟨w, ws, rfl⟩
  have hok : ∀ q ∈ ws, okC q = true := fun q hq => splitL_ok h q (by rw [hw]; exact List.mem_cons_of_mem _ hq)
  have hsp := oSplit_ok h 32
  rw [hw] at hsp
  have hfo : foundOf l = .tup [numD w.dropLast, .tup (ws.map lineOfD)] := by unfold foundOf; rw [hw]
  have h0 : oIx (.lst (((w :: ws).map sT).map .str)) (.int 0) = some (.val (.str (sT w))) := oIx_atL (k := 0) rfl rfl
  have htl := cut_tail (((w :: ws).map sT).map .str)
  repeat (first | ((with_reducible apply x_eq); with_reducible exact hsp) | ((with_reducible apply x_eq); with_reducible exact h0) | ((with_reducible apply x_eq); with_reducible exact cut_last w) | ((with_reducible apply x_eq); with_reducible exact htl) | refine Ww.eq (number_of_ok _ _) ?_ | with_reducible apply w_seq | with_reducible apply w_ret | with_reducible apply w_ifS | with_reducible apply w_set | with_reducible apply w_C | with_reducible apply w_nil | with_reducible apply w_cons | with_reducible apply w_tup | with_reducible apply w_lst | with_reducible apply w_d2 | ((with_reducible apply w_var); rfl) | ((with_reducible apply w_varO); rfl) | with_reducible apply w_call | with_reducible apply w_test | with_reducible apply w_V1 | with_reducible apply w_V2 | with_reducible apply w_W2 | with_reducible apply w_chain | with_reducible apply w_tAnd | with_reducible apply w_tOr | with_reducible apply w_tNot | with_reducible apply w_tTrue | with_reducible apply w_and | with_reducible apply w_or | with_reducible apply w_not | with_reducible apply w_ifE | with_reducible apply w_isi | with_reducible apply w_dN | with_reducible apply w_d1 | ((with_reducible apply w_has); (apply x_has; rfl)) | ((with_reducible apply w_take); rfl) | ((with_reducible apply w_takeO); rfl) | with_reducible apply w_no | with_reducible apply w_at | with_reducible apply w_sl | with_reducible apply w_slV | with_reducible apply w_M1 | with_reducible apply w_fmt | with_reducible apply w_js0 | with_reducible apply w_js | with_reducible apply w_iAny | with_reducible apply w_iR1 | with_reducible apply w_iR2 | with_reducible apply w_for | with_reducible apply w_comp | with_reducible apply w_cc | with_reducible apply w_cn | with_reducible apply w_skip | with_reducible apply w_expr | with_reducible apply w_unp | with_reducible apply w_par2 | with_reducible apply w_par3 | with_reducible apply w_emp | with_reducible apply w_setObj | with_reducible apply w_raise | with_reducible apply w_catch | dsimp only [List.set_cons_zero, List.set_cons_succ, wipeD, frz_v, frz_o, frz_d] | ((with_reducible apply x_t); rfl) | ((with_reducible apply x_f); rfl) | ((with_reducible apply xi_int); rfl) | ((with_reducible apply xi_bool); rfl) | ((with_reducible apply xi_str); rfl) | ((with_reducible apply xi_tuple); rfl) | ((with_reducible apply xi_list); rfl) | ((with_reducible apply xi_dict); rfl) | ((with_reducible apply x_chain); rfl) | ((with_reducible apply x_bl); rfl) | ((with_reducible apply x_int); rfl) | ((with_reducible apply x_str); rfl) | ((with_reducible apply x_eq); rfl) | ((with_reducible apply x_intD); rfl) | ((with_reducible apply x_own); rfl) | ((with_reducible apply x_ow); rfl) | ((with_reducible apply x_owD); rfl) | ((with_reducible apply x_ob); rfl) | ((with_reducible apply x_mo); rfl) | ((with_reducible apply x_tp); rfl) | ((with_reducible apply x_intD2); rfl; rfl) | ((with_reducible apply x_le); exact Nat.le_of_ble_eq_true rfl))
  refine comp_nm (fun _ => true) (fun d => match d with
    | .str z => lineOfD z.cps.toList
    | _ => .non) (fun d hd' ρ' h1 h2 h3 => ⟨rfl, rfl⟩) (fun d hd' _ ρ' h1 h2 h3 => ?_) (by simp) (by simp) ?_
  · have hd2 : d ∈ (ws.map sT).map D.str := hd'
    obtain ⟨z, hz, rfl⟩ := List.mem_map.mp hd2
    obtain ⟨q, hq, rfl⟩ := List.mem_map.mp hz
    refine w_call (w_cons (w_var h3 (w_nil ?_)))
    refine Ww.eq (line_of_ok (hok q hq) _) ⟨rfl, rfl⟩
  · rw [flt_true]
    have em : (((w :: ws).map sT).map D.str).tail.map (fun d => match d with
        | .str z => lineOfD z.cps.toList
        | _ => .non) = ws.map lineOfD := by
      show ((ws.map sT).map D.str).map _ = _
      rw [List.map_map, List.map_map]; rfl
    rw [em]
    repeat (first | with_reducible apply w_seq | with_reducible apply w_ret | with_reducible apply w_ifS | with_reducible apply w_set | with_reducible apply w_C | with_reducible apply w_nil | with_reducible apply w_cons | with_reducible apply w_tup | with_reducible apply w_lst | with_reducible apply w_d2 | ((with_reducible apply w_var); rfl) | ((with_reducible apply w_varO); rfl) | with_reducible apply w_call | with_reducible apply w_test | with_reducible apply w_V1 | with_reducible apply w_V2 | with_reducible apply w_W2 | with_reducible apply w_chain | with_reducible apply w_tAnd | with_reducible apply w_tOr | with_reducible apply w_tNot | with_reducible apply w_tTrue | with_reducible apply w_and | with_reducible apply w_or | with_reducible apply w_not | with_reducible apply w_ifE | with_reducible apply w_isi | with_reducible apply w_dN | with_reducible apply w_d1 | ((with_reducible apply w_has); (apply x_has; rfl)) | ((with_reducible apply w_take); rfl) | ((with_reducible apply w_takeO); rfl) | with_reducible apply w_no | with_reducible apply w_at | with_reducible apply w_sl | with_reducible apply w_slV | with_reducible apply w_M1 | with_reducible apply w_fmt | with_reducible apply w_js0 | with_reducible apply w_js | with_reducible apply w_iAny | with_reducible apply w_iR1 | with_reducible apply w_iR2 | with_reducible apply w_for | with_reducible apply w_comp | with_reducible apply w_cc | with_reducible apply w_cn | with_reducible apply w_skip | with_reducible apply w_expr | with_reducible apply w_unp | with_reducible apply w_par2 | with_reducible apply w_par3 | with_reducible apply w_emp | with_reducible apply w_setObj | with_reducible apply w_raise | with_reducible apply w_catch | dsimp only [List.set_cons_zero, List.set_cons_succ, wipeD, frz_v, frz_o, frz_d] | ((with_reducible apply x_t); rfl) | ((with_reducible apply x_f); rfl) | ((with_reducible apply xi_int); rfl) | ((with_reducible apply xi_bool); rfl) | ((with_reducible apply xi_str); rfl) | ((with_reducible apply xi_tuple); rfl) | ((with_reducible apply xi_list); rfl) | ((with_reducible apply xi_dict); rfl) | ((with_reducible apply x_chain); rfl) | ((with_reducible apply x_bl); rfl) | ((with_reducible apply x_int); rfl) | ((with_reducible apply x_str); rfl) | ((with_reducible apply x_eq); rfl) | ((with_reducible apply x_intD); rfl) | ((with_reducible apply x_own); rfl) | ((with_reducible apply x_ow); rfl) | ((with_reducible apply x_owD); rfl) | ((with_reducible apply x_ob); rfl) | ((with_reducible apply x_mo); rfl) | ((with_reducible apply x_tp); rfl) | ((with_reducible apply x_intD2); rfl; rfl) | ((with_reducible apply x_le); exact Nat.le_of_ble_eq_true rfl))
    show Ww X _ _
    obtain ⟨b, hb, hiff⟩ := is_net_ok (foundOf_good l) M
    rw [hfo] at hb hiff
    repeat (first | refine Ww.eq hb ?_ | with_reducible apply w_seq | with_reducible apply w_ret | with_reducible apply w_ifS | with_reducible apply w_set | with_reducible apply w_C | with_reducible apply w_nil | with_reducible apply w_cons | with_reducible apply w_tup | with_reducible apply w_lst | with_reducible apply w_d2 | ((with_reducible apply w_var); rfl) | ((with_reducible apply w_varO); rfl) | with_reducible apply w_call | with_reducible apply w_test | with_reducible apply w_V1 | with_reducible apply w_V2 | with_reducible apply w_W2 | with_reducible apply w_chain | with_reducible apply w_tAnd | with_reducible apply w_tOr | with_reducible apply w_tNot | with_reducible apply w_tTrue | with_reducible apply w_and | with_reducible apply w_or | with_reducible apply w_not | with_reducible apply w_ifE | with_reducible apply w_isi | with_reducible apply w_dN | with_reducible apply w_d1 | ((with_reducible apply w_has); (apply x_has; rfl)) | ((with_reducible apply w_take); rfl) | ((with_reducible apply w_takeO); rfl) | with_reducible apply w_no | with_reducible apply w_at | with_reducible apply w_sl | with_reducible apply w_slV | with_reducible apply w_M1 | with_reducible apply w_fmt | with_reducible apply w_js0 | with_reducible apply w_js | with_reducible apply w_iAny | with_reducible apply w_iR1 | with_reducible apply w_iR2 | with_reducible apply w_for | with_reducible apply w_comp | with_reducible apply w_cc | with_reducible apply w_cn | with_reducible apply w_skip | with_reducible apply w_expr | with_reducible apply w_unp | with_reducible apply w_par2 | with_reducible apply w_par3 | with_reducible apply w_emp | with_reducible apply w_setObj | with_reducible apply w_raise | with_reducible apply w_catch | dsimp only [List.set_cons_zero, List.set_cons_succ, wipeD, frz_v, frz_o, frz_d] | ((with_reducible apply x_t); rfl) | ((with_reducible apply x_f); rfl) | ((with_reducible apply xi_int); rfl) | ((with_reducible apply xi_bool); rfl) | ((with_reducible apply xi_str); rfl) | ((with_reducible apply xi_tuple); rfl) | ((with_reducible apply xi_list); rfl) | ((with_reducible apply xi_dict); rfl) | ((with_reducible apply x_chain); rfl) | ((with_reducible apply x_bl); rfl) | ((with_reducible apply x_int); rfl) | ((with_reducible apply x_str); rfl) | ((with_reducible apply x_eq); rfl) | ((with_reducible apply x_intD); rfl) | ((with_reducible apply x_own); rfl) | ((with_reducible apply x_ow); rfl) | ((with_reducible apply x_owD); rfl) | ((with_reducible apply x_ob); rfl) | ((with_reducible apply x_mo); rfl) | ((with_reducible apply x_tp); rfl) | ((with_reducible apply x_intD2); rfl; rfl) | ((with_reducible apply x_le); exact Nat.le_of_ble_eq_true rfl))
    cases b with
    | false =>
      repeat (first | with_reducible apply w_seq | with_reducible apply w_ret | with_reducible apply w_ifS | with_reducible apply w_set | with_reducible apply w_C | with_reducible apply w_nil | with_reducible apply w_cons | with_reducible apply w_tup | with_reducible apply w_lst | with_reducible apply w_d2 | ((with_reducible apply w_var); rfl) | ((with_reducible apply w_varO); rfl) | with_reducible apply w_call | with_reducible apply w_test | with_reducible apply w_V1 | with_reducible apply w_V2 | with_reducible apply w_W2 | with_reducible apply w_chain | with_reducible apply w_tAnd | with_reducible apply w_tOr | with_reducible apply w_tNot | with_reducible apply w_tTrue | with_reducible apply w_and | with_reducible apply w_or | with_reducible apply w_not | with_reducible apply w_ifE | with_reducible apply w_isi | with_reducible apply w_dN | with_reducible apply w_d1 | ((with_reducible apply w_has); (apply x_has; rfl)) | ((with_reducible apply w_take); rfl) | ((with_reducible apply w_takeO); rfl) | with_reducible apply w_no | with_reducible apply w_at | with_reducible apply w_sl | with_reducible apply w_slV | with_reducible apply w_M1 | with_reducible apply w_fmt | with_reducible apply w_js0 | with_reducible apply w_js | with_reducible apply w_iAny | with_reducible apply w_iR1 | with_reducible apply w_iR2 | with_reducible apply w_for | with_reducible apply w_comp | with_reducible apply w_cc | with_reducible apply w_cn | with_reducible apply w_skip | with_reducible apply w_expr | with_reducible apply w_unp | with_reducible apply w_par2 | with_reducible apply w_par3 | with_reducible apply w_emp | with_reducible apply w_setObj | with_reducible apply w_raise | with_reducible apply w_catch | dsimp only [List.set_cons_zero, List.set_cons_succ, wipeD, frz_v, frz_o, frz_d] | ((with_reducible apply x_t); rfl) | ((with_reducible apply x_f); rfl) | ((with_reducible apply xi_int); rfl) | ((with_reducible apply xi_bool); rfl) | ((with_reducible apply xi_str); rfl) | ((with_reducible apply xi_tuple); rfl) | ((with_reducible apply xi_list); rfl) | ((with_reducible apply xi_dict); rfl) | ((with_reducible apply x_chain); rfl) | ((with_reducible apply x_bl); rfl) | ((with_reducible apply x_int); rfl) | ((with_reducible apply x_str); rfl) | ((with_reducible apply x_eq); rfl) | ((with_reducible apply x_intD); rfl) | ((with_reducible apply x_own); rfl) | ((with_reducible apply x_ow); rfl) | ((with_reducible apply x_owD); rfl) | ((with_reducible apply x_ob); rfl) | ((with_reducible apply x_mo); rfl) | ((with_reducible apply x_tp); rfl) | ((with_reducible apply x_intD2); rfl; rfl) | ((with_reducible apply x_le); exact Nat.le_of_ble_eq_true rfl))
      subst hX
      refine ⟨⟨rfl, rfl⟩, fun p ls o e _ => ?_⟩
      rw [hfo] at e
      exact absurd (hiff.mpr ⟨p, ls, e, o⟩) ft
    | true =>
      obtain ⟨p, ls, e, o⟩ := hiff.mp rfl
      have ht := net_text_ok o M
      rw [← e] at ht
      repeat (first | refine Ww.eq ht ?_ | with_reducible apply w_seq | with_reducible apply w_ret | with_reducible apply w_ifS | with_reducible apply w_set | with_reducible apply w_C | with_reducible apply w_nil | with_reducible apply w_cons | with_reducible apply w_tup | with_reducible apply w_lst | with_reducible apply w_d2 | ((with_reducible apply w_var); rfl) | ((with_reducible apply w_varO); rfl) | with_reducible apply w_call | with_reducible apply w_test | with_reducible apply w_V1 | with_reducible apply w_V2 | with_reducible apply w_W2 | with_reducible apply w_chain | with_reducible apply w_tAnd | with_reducible apply w_tOr | with_reducible apply w_tNot | with_reducible apply w_tTrue | with_reducible apply w_and | with_reducible apply w_or | with_reducible apply w_not | with_reducible apply w_ifE | with_reducible apply w_isi | with_reducible apply w_dN | with_reducible apply w_d1 | ((with_reducible apply w_has); (apply x_has; rfl)) | ((with_reducible apply w_take); rfl) | ((with_reducible apply w_takeO); rfl) | with_reducible apply w_no | with_reducible apply w_at | with_reducible apply w_sl | with_reducible apply w_slV | with_reducible apply w_M1 | with_reducible apply w_fmt | with_reducible apply w_js0 | with_reducible apply w_js | with_reducible apply w_iAny | with_reducible apply w_iR1 | with_reducible apply w_iR2 | with_reducible apply w_for | with_reducible apply w_comp | with_reducible apply w_cc | with_reducible apply w_cn | with_reducible apply w_skip | with_reducible apply w_expr | with_reducible apply w_unp | with_reducible apply w_par2 | with_reducible apply w_par3 | with_reducible apply w_emp | with_reducible apply w_setObj | with_reducible apply w_raise | with_reducible apply w_catch | dsimp only [List.set_cons_zero, List.set_cons_succ, wipeD, frz_v, frz_o, frz_d] | ((with_reducible apply x_t); rfl) | ((with_reducible apply x_f); rfl) | ((with_reducible apply xi_int); rfl) | ((with_reducible apply xi_bool); rfl) | ((with_reducible apply xi_str); rfl) | ((with_reducible apply xi_tuple); rfl) | ((with_reducible apply xi_list); rfl) | ((with_reducible apply xi_dict); rfl) | ((with_reducible apply x_chain); rfl) | ((with_reducible apply x_bl); rfl) | ((with_reducible apply x_int); rfl) | ((with_reducible apply x_str); rfl) | ((with_reducible apply x_eq); rfl) | ((with_reducible apply x_intD); rfl) | ((with_reducible apply x_own); rfl) | ((with_reducible apply x_ow); rfl) | ((with_reducible apply x_owD); rfl) | ((with_reducible apply x_ob); rfl) | ((with_reducible apply x_mo); rfl) | ((with_reducible apply x_tp); rfl) | ((with_reducible apply x_intD2); rfl; rfl) | ((with_reducible apply x_le); exact Nat.le_of_ble_eq_true rfl))
      rw [eqv_ss]
      by_cases hne : netT p ls = l
      · have : (!decide (sT (netT p ls) = sT l)) = false := by rw [hne]; simp
        rw [this]
        repeat (first | with_reducible apply w_seq | with_reducible apply w_ret | with_reducible apply w_ifS | with_reducible apply w_set | with_reducible apply w_C | with_reducible apply w_nil | with_reducible apply w_cons | with_reducible apply w_tup | with_reducible apply w_lst | with_reducible apply w_d2 | ((with_reducible apply w_var); rfl) | ((with_reducible apply w_varO); rfl) | with_reducible apply w_call | with_reducible apply w_test | with_reducible apply w_V1 | with_reducible apply w_V2 | with_reducible apply w_W2 | with_reducible apply w_chain | with_reducible apply w_tAnd | with_reducible apply w_tOr | with_reducible apply w_tNot | with_reducible apply w_tTrue | with_reducible apply w_and | with_reducible apply w_or | with_reducible apply w_not | with_reducible apply w_ifE | with_reducible apply w_isi | with_reducible apply w_dN | with_reducible apply w_d1 | ((with_reducible apply w_has); (apply x_has; rfl)) | ((with_reducible apply w_take); rfl) | ((with_reducible apply w_takeO); rfl) | with_reducible apply w_no | with_reducible apply w_at | with_reducible apply w_sl | with_reducible apply w_slV | with_reducible apply w_M1 | with_reducible apply w_fmt | with_reducible apply w_js0 | with_reducible apply w_js | with_reducible apply w_iAny | with_reducible apply w_iR1 | with_reducible apply w_iR2 | with_reducible apply w_for | with_reducible apply w_comp | with_reducible apply w_cc | with_reducible apply w_cn | with_reducible apply w_skip | with_reducible apply w_expr | with_reducible apply w_unp | with_reducible apply w_par2 | with_reducible apply w_par3 | with_reducible apply w_emp | with_reducible apply w_setObj | with_reducible apply w_raise | with_reducible apply w_catch | dsimp only [List.set_cons_zero, List.set_cons_succ, wipeD, frz_v, frz_o, frz_d] | ((with_reducible apply x_t); rfl) | ((with_reducible apply x_f); rfl) | ((with_reducible apply xi_int); rfl) | ((with_reducible apply xi_bool); rfl) | ((with_reducible apply xi_str); rfl) | ((with_reducible apply xi_tuple); rfl) | ((with_reducible apply xi_list); rfl) | ((with_reducible apply xi_dict); rfl) | ((with_reducible apply x_chain); rfl) | ((with_reducible apply x_bl); rfl) | ((with_reducible apply x_int); rfl) | ((with_reducible apply x_str); rfl) | ((with_reducible apply x_eq); rfl) | ((with_reducible apply x_intD); rfl) | ((with_reducible apply x_own); rfl) | ((with_reducible apply x_ow); rfl) | ((with_reducible apply x_owD); rfl) | ((with_reducible apply x_ob); rfl) | ((with_reducible apply x_mo); rfl) | ((with_reducible apply x_tp); rfl) | ((with_reducible apply x_intD2); rfl; rfl) | ((with_reducible apply x_le); exact Nat.le_of_ble_eq_true rfl))
        subst hQ
        exact ⟨⟨p, ls, o, hne, by rw [hfo, e], by rw [e]⟩, rfl⟩
      · have : (!decide (sT (netT p ls) = sT l)) = true := by
          have : ¬ sT (netT p ls) = sT l := fun z => hne (sT_inj z)
          simp [this]
        rw [this]
        repeat (first | with_reducible apply w_seq | with_reducible apply w_ret | with_reducible apply w_ifS | with_reducible apply w_set | with_reducible apply w_C | with_reducible apply w_nil | with_reducible apply w_cons | with_reducible apply w_tup | with_reducible apply w_lst | with_reducible apply w_d2 | ((with_reducible apply w_var); rfl) | ((with_reducible apply w_varO); rfl) | with_reducible apply w_call | with_reducible apply w_test | with_reducible apply w_V1 | with_reducible apply w_V2 | with_reducible apply w_W2 | with_reducible apply w_chain | with_reducible apply w_tAnd | with_reducible apply w_tOr | with_reducible apply w_tNot | with_reducible apply w_tTrue | with_reducible apply w_and | with_reducible apply w_or | with_reducible apply w_not | with_reducible apply w_ifE | with_reducible apply w_isi | with_reducible apply w_dN | with_reducible apply w_d1 | ((with_reducible apply w_has); (apply x_has; rfl)) | ((with_reducible apply w_take); rfl) | ((with_reducible apply w_takeO); rfl) | with_reducible apply w_no | with_reducible apply w_at | with_reducible apply w_sl | with_reducible apply w_slV | with_reducible apply w_M1 | with_reducible apply w_fmt | with_reducible apply w_js0 | with_reducible apply w_js | with_reducible apply w_iAny | with_reducible apply w_iR1 | with_reducible apply w_iR2 | with_reducible apply w_for | with_reducible apply w_comp | with_reducible apply w_cc | with_reducible apply w_cn | with_reducible apply w_skip | with_reducible apply w_expr | with_reducible apply w_unp | with_reducible apply w_par2 | with_reducible apply w_par3 | with_reducible apply w_emp | with_reducible apply w_setObj | with_reducible apply w_raise | with_reducible apply w_catch | dsimp only [List.set_cons_zero, List.set_cons_succ, wipeD, frz_v, frz_o, frz_d] | ((with_reducible apply x_t); rfl) | ((with_reducible apply x_f); rfl) | ((with_reducible apply xi_int); rfl) | ((with_reducible apply xi_bool); rfl) | ((with_reducible apply xi_str); rfl) | ((with_reducible apply xi_tuple); rfl) | ((with_reducible apply xi_list); rfl) | ((with_reducible apply xi_dict); rfl) | ((with_reducible apply x_chain); rfl) | ((with_reducible apply x_bl); rfl) | ((with_reducible apply x_int); rfl) | ((with_reducible apply x_str); rfl) | ((with_reducible apply x_eq); rfl) | ((with_reducible apply x_intD); rfl) | ((with_reducible apply x_own); rfl) | ((with_reducible apply x_ow); rfl) | ((with_reducible apply x_owD); rfl) | ((with_reducible apply x_ob); rfl) | ((with_reducible apply x_mo); rfl) | ((with_reducible apply x_tp); rfl) | ((with_reducible apply x_intD2); rfl; rfl) | ((with_reducible apply x_le); exact Nat.le_of_ble_eq_true rfl))
        subst hX
        refine ⟨⟨rfl, rfl⟩, fun p' ls' o' e' => ?_⟩
        have e2 : netD p' ls' = netD p ls := by rw [← e', hfo, e]
        have e3 : D.tup [D.int p', D.tup (ls'.map lnD)] = D.tup [D.int p, D.tup (ls.map lnD)] := e2
        simp only [D.tup.injEq, List.cons.injEq, D.int.injEq, and_true] at e3
        rw [e3.1, lnD_inj e3.2]
        exact hne
end T82
namespace T82
open PySem DL
open TL (numL numL_digits numL_ne numL_free numL_val numL_len numL_inj tl_num)
theorem numD_num {n : Nat} (h : n < 1000) : numD (numL n) = .int n := by
  have h1 := numL3 h
  have h2 : 1 ≤ (numL n).length := by
    have := numL_ne n
    cases e : numL n with
    | nil => exact absurd e this
    | cons a r => simp
  have h3 : (numL n).all digB = true := by
    rw [List.all_eq_true]
    intro c hc
    have := numL_lt' hc
    unfold digB
    simp; omega
  unfold numD
  rw [if_pos ⟨⟨h2, h1⟩, h3⟩, numL_val]
theorem lineOf_line {p : Int} {l : Ln} (h : okL p l) (hp : p ≤ 5) : lineOfD (lineT l) = lnD l := by
  unfold okL at h
  have e1 : lineT l = (numL l.1.toNat ++ 45 :: numL l.2.1.toNat) ++ 61 :: numL l.2.2.toNat := by unfold lineT; simp
  have n61 : 61 ∉ numL l.1.toNat ++ 45 :: numL l.2.1.toNat := fun hm => by
    rcases List.mem_append.mp hm with hm | hm
    · have := numL_lt' hm; omega
    · rcases List.mem_cons.mp hm with hm | hm
      · cases hm
      · have := numL_lt' hm; omega
  have n45 : 45 ∉ numL l.1.toNat := fun hm => by have := numL_lt' hm; omega
  unfold lineOfD
  rw [e1, part_yes n61]
  dsimp only
  rw [part_yes n45]
  dsimp only
  rw [sT_tl, sT_tl, sT_tl, numD_num (by omega), numD_num (by omega), numD_num (by omega)]
  unfold lnD
  rw [show ((l.1.toNat : Nat) : Int) = l.1 from by omega, show ((l.2.1.toNat : Nat) : Int) = l.2.1 from by omega, show ((l.2.2.toNat : Nat) : Int) = l.2.2 from by omega]
theorem lineT_free {l : Ln} : 32 ∉ lineT l := fun h => by rcases lineT_sign h with h | h | h <;> omega
theorem found_net {p : Int} {ls : List Ln} (o : NetOk p ls) : foundOf (netT p ls) = netD p ls := by
  have hp2 := o.p2; have hp5 := o.p5
  have es : splitL 32 (netT p ls) = (numL p.toNat ++ [58]) :: ls.map lineT := splitL_join (by simp) fun q hq => by
    rcases List.mem_cons.mp hq with rfl | hq
    · intro hm
      rcases List.mem_append.mp hm with hm | hm
      · have := numL_lt' hm; omega
      · have := List.mem_singleton.mp hm; omega
    · obtain ⟨l, _, rfl⟩ := List.mem_map.mp hq
      exact lineT_free
  unfold foundOf
  rw [es]
  dsimp only
  rw [List.dropLast_concat, numD_num (by omega), List.map_map]
  unfold netD
  rw [show ((p.toNat : Nat) : Int) = p from by omega]
  have e : ls.map (lineOfD ∘ lineT) = ls.map lnD := List.map_congr_left fun l hl => lineOf_line (o.lines l hl) hp5
  rw [e]
theorem parse_yes {p : Int} {ls : List Ln} (o : NetOk p ls) (M : List MO) : r_parse_net [.str (sT (netT p ls))] M = .ok (.val (netD p ls)) ⟨[], M⟩ := by
  rcases parse_ok (netT_ok o) M with ⟨p', ls', o', _, e, h⟩ | ⟨h, _⟩
  · rw [found_net o] at e
    rw [e]; exact h
  · exact absurd rfl (h p ls o (found_net o))
theorem parse_no {l : List Nat} (h : okC l = true) (hn : ∀ p ls, NetOk p ls → netT p ls ≠ l) (M : List MO) : r_parse_net [.str (sT l)] M = .exc "InvalidText" M := by
  rcases parse_ok h M with ⟨p', ls', o', e, _, _⟩ | ⟨_, h⟩
  · exact absurd e (hn p' ls' o')
  · exact h
/-! the town -/
def Town (ns : List Int) (k : Nat) (M : List MO) : Prop := ∃ (c : Int) (rest : List Int), M = [.lst ((c :: rest).map .int)] ∧ rest.length = ns.length ∧ 0 ≤ c ∧ c + k ≤ 2 ^ 60
theorem Town.less {ns : List Int} {k j : Nat} {M : List MO} (h : Town ns k M) (hj : j ≤ k) : Town ns j M := by
  obtain ⟨c, r, e, h1, h2, h3⟩ := h
  exact ⟨c, r, e, h1, h2, by omega⟩
theorem law_town_ok (ns : List Int) (hn : ns.length ≤ 63) (M : List MO) : r__law_town [.scr ns] M = .ok (.own ((0 :: ns).map .int)) ⟨[], M⟩ := by
  refine Ww.to_eq (in__law_town ?_)
  unfold db__law_town
  have ea : oAdd (.lst [D.int 0]) (.lst (ns.map .int)) = some (.own ((0 :: ns).map .int)) := by
    unfold oAdd
    dsimp only
    rw [if_pos (lim_ge (by simp; omega))]; rfl
  repeat (first | ((with_reducible apply x_eq); with_reducible exact ea) | with_reducible apply w_seq | with_reducible apply w_ret | with_reducible apply w_ifS | with_reducible apply w_set | with_reducible apply w_C | with_reducible apply w_nil | with_reducible apply w_cons | with_reducible apply w_tup | with_reducible apply w_lst | with_reducible apply w_d2 | ((with_reducible apply w_var); rfl) | ((with_reducible apply w_varO); rfl) | with_reducible apply w_call | with_reducible apply w_test | with_reducible apply w_V1 | with_reducible apply w_V2 | with_reducible apply w_W2 | with_reducible apply w_chain | with_reducible apply w_tAnd | with_reducible apply w_tOr | with_reducible apply w_tNot | with_reducible apply w_tTrue | with_reducible apply w_and | with_reducible apply w_or | with_reducible apply w_not | with_reducible apply w_ifE | with_reducible apply w_isi | with_reducible apply w_dN | with_reducible apply w_d1 | ((with_reducible apply w_has); (apply x_has; rfl)) | ((with_reducible apply w_take); rfl) | ((with_reducible apply w_takeO); rfl) | with_reducible apply w_no | with_reducible apply w_at | with_reducible apply w_sl | with_reducible apply w_slV | with_reducible apply w_M1 | with_reducible apply w_fmt | with_reducible apply w_js0 | with_reducible apply w_js | with_reducible apply w_iAny | with_reducible apply w_iR1 | with_reducible apply w_iR2 | with_reducible apply w_for | with_reducible apply w_comp | with_reducible apply w_cc | with_reducible apply w_cn | with_reducible apply w_skip | with_reducible apply w_expr | with_reducible apply w_unp | with_reducible apply w_par2 | with_reducible apply w_par3 | with_reducible apply w_emp | with_reducible apply w_setObj | with_reducible apply w_raise | with_reducible apply w_catch | dsimp only [List.set_cons_zero, List.set_cons_succ, wipeD, frz_v, frz_o, frz_d] | ((with_reducible apply x_t); rfl) | ((with_reducible apply x_f); rfl) | ((with_reducible apply xi_int); rfl) | ((with_reducible apply xi_bool); rfl) | ((with_reducible apply xi_str); rfl) | ((with_reducible apply xi_tuple); rfl) | ((with_reducible apply xi_list); rfl) | ((with_reducible apply xi_dict); rfl) | ((with_reducible apply x_chain); rfl) | ((with_reducible apply x_bl); rfl) | ((with_reducible apply x_int); rfl) | ((with_reducible apply x_str); rfl) | ((with_reducible apply x_eq); rfl) | ((with_reducible apply x_intD); rfl) | ((with_reducible apply x_own); rfl) | ((with_reducible apply x_ow); rfl) | ((with_reducible apply x_owD); rfl) | ((with_reducible apply x_ob); rfl) | ((with_reducible apply x_mo); rfl) | ((with_reducible apply x_tp); rfl) | ((with_reducible apply x_intD2); rfl; rfl) | ((with_reducible apply x_le); exact Nat.le_of_ble_eq_true rfl))
  exact ⟨rfl, rfl⟩
theorem oMul_l {i j : Int} (h : 0 ≤ i ∧ i < 2 ^ 64) : oMul (.int i) (.int j) = some (.val (.int (i * j))) := by
  unfold oMul mulOk
  dsimp only
  rw [if_pos (by simp; omega)]
theorem oMul_r {i j : Int} (h : 0 ≤ j ∧ j < 2 ^ 64) : oMul (.int i) (.int j) = some (.val (.int (i * j))) := by
  unfold oMul mulOk
  dsimp only
  rw [if_pos (by simp; omega)]
theorem oMod_p {i j : Int} (h : 0 < j) : oMod (.int i) (.int j) = some (.val (.int (i % j))) := by
  unfold oMod
  dsimp only
  rw [if_pos h]
theorem oFdiv_p {i j : Int} (h : 0 < j ∧ j < 2 ^ 64) : oFdiv (.int i) (.int j) = some (.val (.int (i / j))) := by
  unfold oFdiv
  dsimp only
  have h1 : j.natAbs < 2 ^ 64 := by omega
  have h2 : j.natAbs.log2 < 64 := (Nat.log2_lt (by omega)).mpr h1
  rw [if_pos ⟨h.1, by omega⟩]
theorem oPow_p {i j : Int} (h : 0 ≤ i ∧ i < 2 ^ 64) (h2 : 0 ≤ j ∧ j ≤ 1000000) : oPow (.int i) (.int j) = some (.val (.int (i ^ j.toNat))) := by
  unfold oPow
  dsimp only
  rw [if_pos ⟨h2.1, h2.2, by omega⟩]
theorem oIx_scr {ns : List Int} {i : Int} {k : Nat} {d : Int} (hi : i = k) (h : ns[k]? = some d) : oIx (.scr ns) (.int i) = some (.val (.int d)) := by
  show (L2.atI ns i).map (fun z => SV.val (.int z)) = _
  rw [hi, atI_nat, h]; rfl
theorem ixN_nat {n i : Nat} (h : i < n) : L2.ixN n (i : Int) = some i := by
  unfold L2.ixN
  rw [if_pos (by omega), if_pos (by omega)]; simp
theorem draw_ok {ns : List Int} {k : Nat} {M : List MO} {lim' : Int} (hn : ns.length ≤ 63) (ht : Town ns (k + 1) M) (h1 : 0 < lim') (h2 : lim' ≤ 1000000) :
    Ww NoX (r__law_draw [.scr ns, .obj 0, .int lim'] M) fun x s => ∃ v, x = .val (.int v) ∧ (0 ≤ v ∧ v < lim') ∧ ∃ M', s = ⟨[], M'⟩ ∧ Town ns k M' := by
  obtain ⟨c, rest, rfl, hr, hc0, hc1⟩ := ht
  refine in__law_draw ?_
  unfold db__law_draw
  have hk : c < 2 ^ 60 := by omega
  have e0 : ∀ (c : Int), oIx (.lst ((c :: rest).map D.int)) (.int 0) = some (.val (.int c)) := fun c => oIx_atL (k := 0) rfl rfl
  have ht1 : Town ns k [.lst (((c + 1) :: rest).map .int)] := ⟨c + 1, rest, rfl, hr, by omega, by omega⟩
  refine w_seq (w_setIxM ?_)
  repeat (first | ((with_reducible apply x_eq); with_reducible exact e0 _) | with_reducible apply w_seq | with_reducible apply w_ret | with_reducible apply w_ifS | with_reducible apply w_set | with_reducible apply w_C | with_reducible apply w_nil | with_reducible apply w_cons | with_reducible apply w_tup | with_reducible apply w_lst | with_reducible apply w_d2 | ((with_reducible apply w_var); rfl) | ((with_reducible apply w_varO); rfl) | with_reducible apply w_call | with_reducible apply w_test | with_reducible apply w_V1 | with_reducible apply w_V2 | with_reducible apply w_W2 | with_reducible apply w_chain | with_reducible apply w_tAnd | with_reducible apply w_tOr | with_reducible apply w_tNot | with_reducible apply w_tTrue | with_reducible apply w_and | with_reducible apply w_or | with_reducible apply w_not | with_reducible apply w_ifE | with_reducible apply w_isi | with_reducible apply w_dN | with_reducible apply w_d1 | ((with_reducible apply w_has); (apply x_has; rfl)) | ((with_reducible apply w_take); rfl) | ((with_reducible apply w_takeO); rfl) | with_reducible apply w_no | with_reducible apply w_at | with_reducible apply w_sl | with_reducible apply w_slV | with_reducible apply w_M1 | with_reducible apply w_fmt | with_reducible apply w_js0 | with_reducible apply w_js | with_reducible apply w_iAny | with_reducible apply w_iR1 | with_reducible apply w_iR2 | with_reducible apply w_for | with_reducible apply w_comp | with_reducible apply w_cc | with_reducible apply w_cn | with_reducible apply w_skip | with_reducible apply w_expr | with_reducible apply w_unp | with_reducible apply w_par2 | with_reducible apply w_par3 | with_reducible apply w_emp | with_reducible apply w_setObj | with_reducible apply w_raise | with_reducible apply w_catch | dsimp only [List.set_cons_zero, List.set_cons_succ, wipeD, frz_v, frz_o, frz_d] | ((with_reducible apply x_t); rfl) | ((with_reducible apply x_f); rfl) | ((with_reducible apply xi_int); rfl) | ((with_reducible apply xi_bool); rfl) | ((with_reducible apply xi_str); rfl) | ((with_reducible apply xi_tuple); rfl) | ((with_reducible apply xi_list); rfl) | ((with_reducible apply xi_dict); rfl) | ((with_reducible apply x_chain); rfl) | ((with_reducible apply x_bl); rfl) | ((with_reducible apply x_int); rfl) | ((with_reducible apply x_str); rfl) | ((with_reducible apply x_eq); rfl) | ((with_reducible apply x_intD); rfl) | ((with_reducible apply x_own); rfl) | ((with_reducible apply x_ow); rfl) | ((with_reducible apply x_owD); rfl) | ((with_reducible apply x_ob); rfl) | ((with_reducible apply x_mo); rfl) | ((with_reducible apply x_tp); rfl) | ((with_reducible apply x_intD2); rfl; rfl) | ((with_reducible apply x_le); exact Nat.le_of_ble_eq_true rfl))
  refine x_tr rfl ?_
  repeat (first | with_reducible apply w_seq | with_reducible apply w_ret | with_reducible apply w_ifS | with_reducible apply w_set | with_reducible apply w_C | with_reducible apply w_nil | with_reducible apply w_cons | with_reducible apply w_tup | with_reducible apply w_lst | with_reducible apply w_d2 | ((with_reducible apply w_var); rfl) | ((with_reducible apply w_varO); rfl) | with_reducible apply w_call | with_reducible apply w_test | with_reducible apply w_V1 | with_reducible apply w_V2 | with_reducible apply w_W2 | with_reducible apply w_chain | with_reducible apply w_tAnd | with_reducible apply w_tOr | with_reducible apply w_tNot | with_reducible apply w_tTrue | with_reducible apply w_and | with_reducible apply w_or | with_reducible apply w_not | with_reducible apply w_ifE | with_reducible apply w_isi | with_reducible apply w_dN | with_reducible apply w_d1 | ((with_reducible apply w_has); (apply x_has; rfl)) | ((with_reducible apply w_take); rfl) | ((with_reducible apply w_takeO); rfl) | with_reducible apply w_no | with_reducible apply w_at | with_reducible apply w_sl | with_reducible apply w_slV | with_reducible apply w_M1 | with_reducible apply w_fmt | with_reducible apply w_js0 | with_reducible apply w_js | with_reducible apply w_iAny | with_reducible apply w_iR1 | with_reducible apply w_iR2 | with_reducible apply w_for | with_reducible apply w_comp | with_reducible apply w_cc | with_reducible apply w_cn | with_reducible apply w_skip | with_reducible apply w_expr | with_reducible apply w_unp | with_reducible apply w_par2 | with_reducible apply w_par3 | with_reducible apply w_emp | with_reducible apply w_setObj | with_reducible apply w_raise | with_reducible apply w_catch | dsimp only [List.set_cons_zero, List.set_cons_succ, wipeD, frz_v, frz_o, frz_d] | ((with_reducible apply x_t); rfl) | ((with_reducible apply x_f); rfl) | ((with_reducible apply xi_int); rfl) | ((with_reducible apply xi_bool); rfl) | ((with_reducible apply xi_str); rfl) | ((with_reducible apply xi_tuple); rfl) | ((with_reducible apply xi_list); rfl) | ((with_reducible apply xi_dict); rfl) | ((with_reducible apply x_chain); rfl) | ((with_reducible apply x_bl); rfl) | ((with_reducible apply x_int); rfl) | ((with_reducible apply x_str); rfl) | ((with_reducible apply x_eq); rfl) | ((with_reducible apply x_intD); rfl) | ((with_reducible apply x_own); rfl) | ((with_reducible apply x_ow); rfl) | ((with_reducible apply x_owD); rfl) | ((with_reducible apply x_ob); rfl) | ((with_reducible apply x_mo); rfl) | ((with_reducible apply x_tp); rfl) | ((with_reducible apply x_intD2); rfl; rfl) | ((with_reducible apply x_le); exact Nat.le_of_ble_eq_true rfl))
  refine ⟨0, ?_, ?_⟩
  · rw [List.length_map]; exact ixN_nat (i := 0) (by simp)
  show Ww _ _ _
  have em : (List.map D.int (c :: rest)).set 0 (D.int (c + 1)) = ((c + 1) :: rest).map D.int := rfl
  rw [em]
  have hm : 0 ≤ c + 1 ∧ c + 1 < 2 ^ 64 := by omega
  repeat (first | with_reducible apply w_seq | with_reducible apply w_ret | with_reducible apply w_ifS | with_reducible apply w_set | with_reducible apply w_C | with_reducible apply w_nil | with_reducible apply w_cons | with_reducible apply w_tup | with_reducible apply w_lst | with_reducible apply w_d2 | ((with_reducible apply w_var); rfl) | ((with_reducible apply w_varO); rfl) | with_reducible apply w_call | with_reducible apply w_test | with_reducible apply w_V1 | with_reducible apply w_V2 | with_reducible apply w_W2 | with_reducible apply w_chain | with_reducible apply w_tAnd | with_reducible apply w_tOr | with_reducible apply w_tNot | with_reducible apply w_tTrue | with_reducible apply w_and | with_reducible apply w_or | with_reducible apply w_not | with_reducible apply w_ifE | with_reducible apply w_isi | with_reducible apply w_dN | with_reducible apply w_d1 | ((with_reducible apply w_has); (apply x_has; rfl)) | ((with_reducible apply w_take); rfl) | ((with_reducible apply w_takeO); rfl) | with_reducible apply w_no | with_reducible apply w_at | with_reducible apply w_sl | with_reducible apply w_slV | with_reducible apply w_M1 | with_reducible apply w_fmt | with_reducible apply w_js0 | with_reducible apply w_js | with_reducible apply w_iAny | with_reducible apply w_iR1 | with_reducible apply w_iR2 | with_reducible apply w_for | with_reducible apply w_comp | with_reducible apply w_cc | with_reducible apply w_cn | with_reducible apply w_skip | with_reducible apply w_expr | with_reducible apply w_unp | with_reducible apply w_par2 | with_reducible apply w_par3 | with_reducible apply w_emp | with_reducible apply w_setObj | with_reducible apply w_raise | with_reducible apply w_catch | dsimp only [List.set_cons_zero, List.set_cons_succ, wipeD, frz_v, frz_o, frz_d] | ((with_reducible apply x_t); rfl) | ((with_reducible apply x_f); rfl) | ((with_reducible apply xi_int); rfl) | ((with_reducible apply xi_bool); rfl) | ((with_reducible apply xi_str); rfl) | ((with_reducible apply xi_tuple); rfl) | ((with_reducible apply xi_list); rfl) | ((with_reducible apply xi_dict); rfl) | ((with_reducible apply x_chain); rfl) | ((with_reducible apply x_bl); rfl) | ((with_reducible apply x_int); rfl) | ((with_reducible apply x_str); rfl) | ((with_reducible apply x_eq); rfl) | ((with_reducible apply x_intD); rfl) | ((with_reducible apply x_own); rfl) | ((with_reducible apply x_ow); rfl) | ((with_reducible apply x_owD); rfl) | ((with_reducible apply x_ob); rfl) | ((with_reducible apply x_mo); rfl) | ((with_reducible apply x_tp); rfl) | ((with_reducible apply x_intD2); rfl; rfl) | ((with_reducible apply x_le); exact Nat.le_of_ble_eq_true rfl))
  refine x_split (fun hq => ?_) (fun hq => ?_)
  · repeat (first | ((with_reducible apply x_eq); with_reducible exact e0 _) | ((with_reducible apply x_eq); ((with_reducible apply oMul_l); exact hm)) | ((with_reducible apply x_eq); ((with_reducible apply oMul_r); omega)) | ((with_reducible apply x_eq); ((with_reducible apply oFdiv_p); omega)) | ((with_reducible apply x_eq); ((with_reducible apply oMod_p); exact h1)) | with_reducible apply w_seq | with_reducible apply w_ret | with_reducible apply w_ifS | with_reducible apply w_set | with_reducible apply w_C | with_reducible apply w_nil | with_reducible apply w_cons | with_reducible apply w_tup | with_reducible apply w_lst | with_reducible apply w_d2 | ((with_reducible apply w_var); rfl) | ((with_reducible apply w_varO); rfl) | with_reducible apply w_call | with_reducible apply w_test | with_reducible apply w_V1 | with_reducible apply w_V2 | with_reducible apply w_W2 | with_reducible apply w_chain | with_reducible apply w_tAnd | with_reducible apply w_tOr | with_reducible apply w_tNot | with_reducible apply w_tTrue | with_reducible apply w_and | with_reducible apply w_or | with_reducible apply w_not | with_reducible apply w_ifE | with_reducible apply w_isi | with_reducible apply w_dN | with_reducible apply w_d1 | ((with_reducible apply w_has); (apply x_has; rfl)) | ((with_reducible apply w_take); rfl) | ((with_reducible apply w_takeO); rfl) | with_reducible apply w_no | with_reducible apply w_at | with_reducible apply w_sl | with_reducible apply w_slV | with_reducible apply w_M1 | with_reducible apply w_fmt | with_reducible apply w_js0 | with_reducible apply w_js | with_reducible apply w_iAny | with_reducible apply w_iR1 | with_reducible apply w_iR2 | with_reducible apply w_for | with_reducible apply w_comp | with_reducible apply w_cc | with_reducible apply w_cn | with_reducible apply w_skip | with_reducible apply w_expr | with_reducible apply w_unp | with_reducible apply w_par2 | with_reducible apply w_par3 | with_reducible apply w_emp | with_reducible apply w_setObj | with_reducible apply w_raise | with_reducible apply w_catch | dsimp only [List.set_cons_zero, List.set_cons_succ, wipeD, frz_v, frz_o, frz_d] | ((with_reducible apply x_t); rfl) | ((with_reducible apply x_f); rfl) | ((with_reducible apply xi_int); rfl) | ((with_reducible apply xi_bool); rfl) | ((with_reducible apply xi_str); rfl) | ((with_reducible apply xi_tuple); rfl) | ((with_reducible apply xi_list); rfl) | ((with_reducible apply xi_dict); rfl) | ((with_reducible apply x_chain); rfl) | ((with_reducible apply x_bl); rfl) | ((with_reducible apply x_int); rfl) | ((with_reducible apply x_str); rfl) | ((with_reducible apply x_eq); rfl) | ((with_reducible apply x_intD); rfl) | ((with_reducible apply x_own); rfl) | ((with_reducible apply x_ow); rfl) | ((with_reducible apply x_owD); rfl) | ((with_reducible apply x_ob); rfl) | ((with_reducible apply x_mo); rfl) | ((with_reducible apply x_tp); rfl) | ((with_reducible apply x_intD2); rfl; rfl) | ((with_reducible apply x_le); exact Nat.le_of_ble_eq_true rfl))
    exact ⟨⟨Int.emod_nonneg _ (by omega), Int.emod_lt_of_pos _ h1⟩, _, rfl, ht1⟩
  have hne : ns.length ≠ 0 := by
    intro e
    have : ns = [] := List.length_eq_zero_iff.mp e
    subst this
    rw [eqv_scr_nil] at hq; cases hq
  have hd : 0 ≤ (c + 1) % (ns.length : Int) ∧ (c + 1) % (ns.length : Int) < ns.length := ⟨Int.emod_nonneg _ (by omega), Int.emod_lt_of_pos _ (by omega)⟩
  obtain ⟨a, ha⟩ : ∃ a : Nat, (c + 1) % (ns.length : Int) = a := ⟨((c + 1) % (ns.length : Int)).toNat, by omega⟩
  have hal : a < ns.length := by omega
  obtain ⟨n, hn'⟩ : ∃ n, ns[a]? = some n := ⟨_, List.getElem?_eq_getElem hal⟩
  obtain ⟨t, ht'⟩ : ∃ t, rest[a]? = some t := ⟨_, List.getElem?_eq_getElem (by omega)⟩
  have e1 : oIx (.lst (((c + 1) :: rest).map D.int)) (.int (1 + (c + 1) % (ns.length : Int))) = some (.val (.int t)) := oIx_atL (k := a + 1) (by omega) (by rw [List.map_cons, List.getElem?_cons_succ, List.getElem?_map, ht']; rfl)
  have e2 : oIx (.scr ns) (.int ((c + 1) % (ns.length : Int))) = some (.val (.int n)) := oIx_scr ha hn'
  have e3 : oMod (.int (c + 1)) (.int (ns.length : Int)) = some (.val (.int ((c + 1) % (ns.length : Int)))) := oMod_p (by omega)
  repeat (first | ((with_reducible apply x_eq); with_reducible exact e0 _) | ((with_reducible apply x_eq); with_reducible exact e1) | ((with_reducible apply x_eq); with_reducible exact e2) | ((with_reducible apply x_eq); with_reducible exact e3) | with_reducible apply w_seq | with_reducible apply w_ret | with_reducible apply w_ifS | with_reducible apply w_set | with_reducible apply w_C | with_reducible apply w_nil | with_reducible apply w_cons | with_reducible apply w_tup | with_reducible apply w_lst | with_reducible apply w_d2 | ((with_reducible apply w_var); rfl) | ((with_reducible apply w_varO); rfl) | with_reducible apply w_call | with_reducible apply w_test | with_reducible apply w_V1 | with_reducible apply w_V2 | with_reducible apply w_W2 | with_reducible apply w_chain | with_reducible apply w_tAnd | with_reducible apply w_tOr | with_reducible apply w_tNot | with_reducible apply w_tTrue | with_reducible apply w_and | with_reducible apply w_or | with_reducible apply w_not | with_reducible apply w_ifE | with_reducible apply w_isi | with_reducible apply w_dN | with_reducible apply w_d1 | ((with_reducible apply w_has); (apply x_has; rfl)) | ((with_reducible apply w_take); rfl) | ((with_reducible apply w_takeO); rfl) | with_reducible apply w_no | with_reducible apply w_at | with_reducible apply w_sl | with_reducible apply w_slV | with_reducible apply w_M1 | with_reducible apply w_fmt | with_reducible apply w_js0 | with_reducible apply w_js | with_reducible apply w_iAny | with_reducible apply w_iR1 | with_reducible apply w_iR2 | with_reducible apply w_for | with_reducible apply w_comp | with_reducible apply w_cc | with_reducible apply w_cn | with_reducible apply w_skip | with_reducible apply w_expr | with_reducible apply w_unp | with_reducible apply w_par2 | with_reducible apply w_par3 | with_reducible apply w_emp | with_reducible apply w_setObj | with_reducible apply w_raise | with_reducible apply w_catch | dsimp only [List.set_cons_zero, List.set_cons_succ, wipeD, frz_v, frz_o, frz_d] | ((with_reducible apply x_t); rfl) | ((with_reducible apply x_f); rfl) | ((with_reducible apply xi_int); rfl) | ((with_reducible apply xi_bool); rfl) | ((with_reducible apply xi_str); rfl) | ((with_reducible apply xi_tuple); rfl) | ((with_reducible apply xi_list); rfl) | ((with_reducible apply xi_dict); rfl) | ((with_reducible apply x_chain); rfl) | ((with_reducible apply x_bl); rfl) | ((with_reducible apply x_int); rfl) | ((with_reducible apply x_str); rfl) | ((with_reducible apply x_eq); rfl) | ((with_reducible apply x_intD); rfl) | ((with_reducible apply x_own); rfl) | ((with_reducible apply x_ow); rfl) | ((with_reducible apply x_owD); rfl) | ((with_reducible apply x_ob); rfl) | ((with_reducible apply x_mo); rfl) | ((with_reducible apply x_tp); rfl) | ((with_reducible apply x_intD2); rfl; rfl) | ((with_reducible apply x_le); exact Nat.le_of_ble_eq_true rfl))
  refine x_split (fun _ => ?_) (fun _ => ?_)
  · repeat (first | ((with_reducible apply x_eq); with_reducible exact e0 _) | ((with_reducible apply x_eq); with_reducible exact e1) | ((with_reducible apply x_eq); with_reducible exact e2) | ((with_reducible apply x_eq); with_reducible exact e3) | ((with_reducible apply x_eq); ((with_reducible apply oMul_l); omega)) | ((with_reducible apply x_eq); ((with_reducible apply oMul_r); omega)) | ((with_reducible apply x_eq); ((with_reducible apply oFdiv_p); omega)) | ((with_reducible apply x_eq); ((with_reducible apply oMod_p); omega)) | ((with_reducible apply x_eq); ((with_reducible apply oPow_p) <;> omega)) | with_reducible apply w_seq | with_reducible apply w_ret | with_reducible apply w_ifS | with_reducible apply w_set | with_reducible apply w_C | with_reducible apply w_nil | with_reducible apply w_cons | with_reducible apply w_tup | with_reducible apply w_lst | with_reducible apply w_d2 | ((with_reducible apply w_var); rfl) | ((with_reducible apply w_varO); rfl) | with_reducible apply w_call | with_reducible apply w_test | with_reducible apply w_V1 | with_reducible apply w_V2 | with_reducible apply w_W2 | with_reducible apply w_chain | with_reducible apply w_tAnd | with_reducible apply w_tOr | with_reducible apply w_tNot | with_reducible apply w_tTrue | with_reducible apply w_and | with_reducible apply w_or | with_reducible apply w_not | with_reducible apply w_ifE | with_reducible apply w_isi | with_reducible apply w_dN | with_reducible apply w_d1 | ((with_reducible apply w_has); (apply x_has; rfl)) | ((with_reducible apply w_take); rfl) | ((with_reducible apply w_takeO); rfl) | with_reducible apply w_no | with_reducible apply w_at | with_reducible apply w_sl | with_reducible apply w_slV | with_reducible apply w_M1 | with_reducible apply w_fmt | with_reducible apply w_js0 | with_reducible apply w_js | with_reducible apply w_iAny | with_reducible apply w_iR1 | with_reducible apply w_iR2 | with_reducible apply w_for | with_reducible apply w_comp | with_reducible apply w_cc | with_reducible apply w_cn | with_reducible apply w_skip | with_reducible apply w_expr | with_reducible apply w_unp | with_reducible apply w_par2 | with_reducible apply w_par3 | with_reducible apply w_emp | with_reducible apply w_setObj | with_reducible apply w_raise | with_reducible apply w_catch | dsimp only [List.set_cons_zero, List.set_cons_succ, wipeD, frz_v, frz_o, frz_d] | ((with_reducible apply x_t); rfl) | ((with_reducible apply x_f); rfl) | ((with_reducible apply xi_int); rfl) | ((with_reducible apply xi_bool); rfl) | ((with_reducible apply xi_str); rfl) | ((with_reducible apply xi_tuple); rfl) | ((with_reducible apply xi_list); rfl) | ((with_reducible apply xi_dict); rfl) | ((with_reducible apply x_chain); rfl) | ((with_reducible apply x_bl); rfl) | ((with_reducible apply x_int); rfl) | ((with_reducible apply x_str); rfl) | ((with_reducible apply x_eq); rfl) | ((with_reducible apply x_intD); rfl) | ((with_reducible apply x_own); rfl) | ((with_reducible apply x_ow); rfl) | ((with_reducible apply x_owD); rfl) | ((with_reducible apply x_ob); rfl) | ((with_reducible apply x_mo); rfl) | ((with_reducible apply x_tp); rfl) | ((with_reducible apply x_intD2); rfl; rfl) | ((with_reducible apply x_le); exact Nat.le_of_ble_eq_true rfl))
    refine x_split (fun _ => ?_) (fun _ => ?_)
    · repeat (first | ((with_reducible apply x_eq); with_reducible exact e0 _) | ((with_reducible apply x_eq); with_reducible exact e1) | ((with_reducible apply x_eq); with_reducible exact e2) | ((with_reducible apply x_eq); with_reducible exact e3) | ((with_reducible apply x_eq); ((with_reducible apply oMul_l); omega)) | ((with_reducible apply x_eq); ((with_reducible apply oMul_r); omega)) | ((with_reducible apply x_eq); ((with_reducible apply oFdiv_p); omega)) | ((with_reducible apply x_eq); ((with_reducible apply oMod_p); omega)) | ((with_reducible apply x_eq); ((with_reducible apply oPow_p) <;> omega)) | with_reducible apply w_seq | with_reducible apply w_ret | with_reducible apply w_ifS | with_reducible apply w_set | with_reducible apply w_C | with_reducible apply w_nil | with_reducible apply w_cons | with_reducible apply w_tup | with_reducible apply w_lst | with_reducible apply w_d2 | ((with_reducible apply w_var); rfl) | ((with_reducible apply w_varO); rfl) | with_reducible apply w_call | with_reducible apply w_test | with_reducible apply w_V1 | with_reducible apply w_V2 | with_reducible apply w_W2 | with_reducible apply w_chain | with_reducible apply w_tAnd | with_reducible apply w_tOr | with_reducible apply w_tNot | with_reducible apply w_tTrue | with_reducible apply w_and | with_reducible apply w_or | with_reducible apply w_not | with_reducible apply w_ifE | with_reducible apply w_isi | with_reducible apply w_dN | with_reducible apply w_d1 | ((with_reducible apply w_has); (apply x_has; rfl)) | ((with_reducible apply w_take); rfl) | ((with_reducible apply w_takeO); rfl) | with_reducible apply w_no | with_reducible apply w_at | with_reducible apply w_sl | with_reducible apply w_slV | with_reducible apply w_M1 | with_reducible apply w_fmt | with_reducible apply w_js0 | with_reducible apply w_js | with_reducible apply w_iAny | with_reducible apply w_iR1 | with_reducible apply w_iR2 | with_reducible apply w_for | with_reducible apply w_comp | with_reducible apply w_cc | with_reducible apply w_cn | with_reducible apply w_skip | with_reducible apply w_expr | with_reducible apply w_unp | with_reducible apply w_par2 | with_reducible apply w_par3 | with_reducible apply w_emp | with_reducible apply w_setObj | with_reducible apply w_raise | with_reducible apply w_catch | dsimp only [List.set_cons_zero, List.set_cons_succ, wipeD, frz_v, frz_o, frz_d] | ((with_reducible apply x_t); rfl) | ((with_reducible apply x_f); rfl) | ((with_reducible apply xi_int); rfl) | ((with_reducible apply xi_bool); rfl) | ((with_reducible apply xi_str); rfl) | ((with_reducible apply xi_tuple); rfl) | ((with_reducible apply xi_list); rfl) | ((with_reducible apply xi_dict); rfl) | ((with_reducible apply x_chain); rfl) | ((with_reducible apply x_bl); rfl) | ((with_reducible apply x_int); rfl) | ((with_reducible apply x_str); rfl) | ((with_reducible apply x_eq); rfl) | ((with_reducible apply x_intD); rfl) | ((with_reducible apply x_own); rfl) | ((with_reducible apply x_ow); rfl) | ((with_reducible apply x_owD); rfl) | ((with_reducible apply x_ob); rfl) | ((with_reducible apply x_mo); rfl) | ((with_reducible apply x_tp); rfl) | ((with_reducible apply x_intD2); rfl; rfl) | ((with_reducible apply x_le); exact Nat.le_of_ble_eq_true rfl))
      refine w_setIxM ?_
      repeat (first | ((with_reducible apply x_eq); with_reducible exact e0 _) | ((with_reducible apply x_eq); with_reducible exact e1) | ((with_reducible apply x_eq); with_reducible exact e2) | ((with_reducible apply x_eq); with_reducible exact e3) | ((with_reducible apply x_eq); ((with_reducible apply oMul_l); omega)) | ((with_reducible apply x_eq); ((with_reducible apply oMul_r); omega)) | ((with_reducible apply x_eq); ((with_reducible apply oFdiv_p); omega)) | ((with_reducible apply x_eq); ((with_reducible apply oMod_p); omega)) | ((with_reducible apply x_eq); ((with_reducible apply oPow_p) <;> omega)) | with_reducible apply w_seq | with_reducible apply w_ret | with_reducible apply w_ifS | with_reducible apply w_set | with_reducible apply w_C | with_reducible apply w_nil | with_reducible apply w_cons | with_reducible apply w_tup | with_reducible apply w_lst | with_reducible apply w_d2 | ((with_reducible apply w_var); rfl) | ((with_reducible apply w_varO); rfl) | with_reducible apply w_call | with_reducible apply w_test | with_reducible apply w_V1 | with_reducible apply w_V2 | with_reducible apply w_W2 | with_reducible apply w_chain | with_reducible apply w_tAnd | with_reducible apply w_tOr | with_reducible apply w_tNot | with_reducible apply w_tTrue | with_reducible apply w_and | with_reducible apply w_or | with_reducible apply w_not | with_reducible apply w_ifE | with_reducible apply w_isi | with_reducible apply w_dN | with_reducible apply w_d1 | ((with_reducible apply w_has); (apply x_has; rfl)) | ((with_reducible apply w_take); rfl) | ((with_reducible apply w_takeO); rfl) | with_reducible apply w_no | with_reducible apply w_at | with_reducible apply w_sl | with_reducible apply w_slV | with_reducible apply w_M1 | with_reducible apply w_fmt | with_reducible apply w_js0 | with_reducible apply w_js | with_reducible apply w_iAny | with_reducible apply w_iR1 | with_reducible apply w_iR2 | with_reducible apply w_for | with_reducible apply w_comp | with_reducible apply w_cc | with_reducible apply w_cn | with_reducible apply w_skip | with_reducible apply w_expr | with_reducible apply w_unp | with_reducible apply w_par2 | with_reducible apply w_par3 | with_reducible apply w_emp | with_reducible apply w_setObj | with_reducible apply w_raise | with_reducible apply w_catch | dsimp only [List.set_cons_zero, List.set_cons_succ, wipeD, frz_v, frz_o, frz_d] | ((with_reducible apply x_t); rfl) | ((with_reducible apply x_f); rfl) | ((with_reducible apply xi_int); rfl) | ((with_reducible apply xi_bool); rfl) | ((with_reducible apply xi_str); rfl) | ((with_reducible apply xi_tuple); rfl) | ((with_reducible apply xi_list); rfl) | ((with_reducible apply xi_dict); rfl) | ((with_reducible apply x_chain); rfl) | ((with_reducible apply x_bl); rfl) | ((with_reducible apply x_int); rfl) | ((with_reducible apply x_str); rfl) | ((with_reducible apply x_eq); rfl) | ((with_reducible apply x_intD); rfl) | ((with_reducible apply x_own); rfl) | ((with_reducible apply x_ow); rfl) | ((with_reducible apply x_owD); rfl) | ((with_reducible apply x_ob); rfl) | ((with_reducible apply x_mo); rfl) | ((with_reducible apply x_tp); rfl) | ((with_reducible apply x_intD2); rfl; rfl) | ((with_reducible apply x_le); exact Nat.le_of_ble_eq_true rfl))
      refine x_tr rfl ?_
      repeat (first | ((with_reducible apply x_eq); with_reducible exact e0 _) | ((with_reducible apply x_eq); with_reducible exact e1) | ((with_reducible apply x_eq); with_reducible exact e2) | ((with_reducible apply x_eq); with_reducible exact e3) | ((with_reducible apply x_eq); ((with_reducible apply oMul_l); omega)) | ((with_reducible apply x_eq); ((with_reducible apply oMul_r); omega)) | ((with_reducible apply x_eq); ((with_reducible apply oFdiv_p); omega)) | ((with_reducible apply x_eq); ((with_reducible apply oMod_p); omega)) | ((with_reducible apply x_eq); ((with_reducible apply oPow_p) <;> omega)) | with_reducible apply w_seq | with_reducible apply w_ret | with_reducible apply w_ifS | with_reducible apply w_set | with_reducible apply w_C | with_reducible apply w_nil | with_reducible apply w_cons | with_reducible apply w_tup | with_reducible apply w_lst | with_reducible apply w_d2 | ((with_reducible apply w_var); rfl) | ((with_reducible apply w_varO); rfl) | with_reducible apply w_call | with_reducible apply w_test | with_reducible apply w_V1 | with_reducible apply w_V2 | with_reducible apply w_W2 | with_reducible apply w_chain | with_reducible apply w_tAnd | with_reducible apply w_tOr | with_reducible apply w_tNot | with_reducible apply w_tTrue | with_reducible apply w_and | with_reducible apply w_or | with_reducible apply w_not | with_reducible apply w_ifE | with_reducible apply w_isi | with_reducible apply w_dN | with_reducible apply w_d1 | ((with_reducible apply w_has); (apply x_has; rfl)) | ((with_reducible apply w_take); rfl) | ((with_reducible apply w_takeO); rfl) | with_reducible apply w_no | with_reducible apply w_at | with_reducible apply w_sl | with_reducible apply w_slV | with_reducible apply w_M1 | with_reducible apply w_fmt | with_reducible apply w_js0 | with_reducible apply w_js | with_reducible apply w_iAny | with_reducible apply w_iR1 | with_reducible apply w_iR2 | with_reducible apply w_for | with_reducible apply w_comp | with_reducible apply w_cc | with_reducible apply w_cn | with_reducible apply w_skip | with_reducible apply w_expr | with_reducible apply w_unp | with_reducible apply w_par2 | with_reducible apply w_par3 | with_reducible apply w_emp | with_reducible apply w_setObj | with_reducible apply w_raise | with_reducible apply w_catch | dsimp only [List.set_cons_zero, List.set_cons_succ, wipeD, frz_v, frz_o, frz_d] | ((with_reducible apply x_t); rfl) | ((with_reducible apply x_f); rfl) | ((with_reducible apply xi_int); rfl) | ((with_reducible apply xi_bool); rfl) | ((with_reducible apply xi_str); rfl) | ((with_reducible apply xi_tuple); rfl) | ((with_reducible apply xi_list); rfl) | ((with_reducible apply xi_dict); rfl) | ((with_reducible apply x_chain); rfl) | ((with_reducible apply x_bl); rfl) | ((with_reducible apply x_int); rfl) | ((with_reducible apply x_str); rfl) | ((with_reducible apply x_eq); rfl) | ((with_reducible apply x_intD); rfl) | ((with_reducible apply x_own); rfl) | ((with_reducible apply x_ow); rfl) | ((with_reducible apply x_owD); rfl) | ((with_reducible apply x_ob); rfl) | ((with_reducible apply x_mo); rfl) | ((with_reducible apply x_tp); rfl) | ((with_reducible apply x_intD2); rfl; rfl) | ((with_reducible apply x_le); exact Nat.le_of_ble_eq_true rfl))
      refine ⟨a + 1, ?_, ?_⟩
      · rw [List.length_map, show 1 + (c + 1) % (ns.length : Int) = ((a + 1 : Nat) : Int) from by omega]; exact ixN_nat (by simp; omega)
      show Ww _ _ _
      repeat (first | ((with_reducible apply x_eq); with_reducible exact e0 _) | ((with_reducible apply x_eq); with_reducible exact e1) | ((with_reducible apply x_eq); with_reducible exact e2) | ((with_reducible apply x_eq); with_reducible exact e3) | ((with_reducible apply x_eq); ((with_reducible apply oMul_l); omega)) | ((with_reducible apply x_eq); ((with_reducible apply oMul_r); omega)) | ((with_reducible apply x_eq); ((with_reducible apply oFdiv_p); omega)) | ((with_reducible apply x_eq); ((with_reducible apply oMod_p); omega)) | ((with_reducible apply x_eq); ((with_reducible apply oPow_p) <;> omega)) | with_reducible apply w_seq | with_reducible apply w_ret | with_reducible apply w_ifS | with_reducible apply w_set | with_reducible apply w_C | with_reducible apply w_nil | with_reducible apply w_cons | with_reducible apply w_tup | with_reducible apply w_lst | with_reducible apply w_d2 | ((with_reducible apply w_var); rfl) | ((with_reducible apply w_varO); rfl) | with_reducible apply w_call | with_reducible apply w_test | with_reducible apply w_V1 | with_reducible apply w_V2 | with_reducible apply w_W2 | with_reducible apply w_chain | with_reducible apply w_tAnd | with_reducible apply w_tOr | with_reducible apply w_tNot | with_reducible apply w_tTrue | with_reducible apply w_and | with_reducible apply w_or | with_reducible apply w_not | with_reducible apply w_ifE | with_reducible apply w_isi | with_reducible apply w_dN | with_reducible apply w_d1 | ((with_reducible apply w_has); (apply x_has; rfl)) | ((with_reducible apply w_take); rfl) | ((with_reducible apply w_takeO); rfl) | with_reducible apply w_no | with_reducible apply w_at | with_reducible apply w_sl | with_reducible apply w_slV | with_reducible apply w_M1 | with_reducible apply w_fmt | with_reducible apply w_js0 | with_reducible apply w_js | with_reducible apply w_iAny | with_reducible apply w_iR1 | with_reducible apply w_iR2 | with_reducible apply w_for | with_reducible apply w_comp | with_reducible apply w_cc | with_reducible apply w_cn | with_reducible apply w_skip | with_reducible apply w_expr | with_reducible apply w_unp | with_reducible apply w_par2 | with_reducible apply w_par3 | with_reducible apply w_emp | with_reducible apply w_setObj | with_reducible apply w_raise | with_reducible apply w_catch | dsimp only [List.set_cons_zero, List.set_cons_succ, wipeD, frz_v, frz_o, frz_d] | ((with_reducible apply x_t); rfl) | ((with_reducible apply x_f); rfl) | ((with_reducible apply xi_int); rfl) | ((with_reducible apply xi_bool); rfl) | ((with_reducible apply xi_str); rfl) | ((with_reducible apply xi_tuple); rfl) | ((with_reducible apply xi_list); rfl) | ((with_reducible apply xi_dict); rfl) | ((with_reducible apply x_chain); rfl) | ((with_reducible apply x_bl); rfl) | ((with_reducible apply x_int); rfl) | ((with_reducible apply x_str); rfl) | ((with_reducible apply x_eq); rfl) | ((with_reducible apply x_intD); rfl) | ((with_reducible apply x_own); rfl) | ((with_reducible apply x_ow); rfl) | ((with_reducible apply x_owD); rfl) | ((with_reducible apply x_ob); rfl) | ((with_reducible apply x_mo); rfl) | ((with_reducible apply x_tp); rfl) | ((with_reducible apply x_intD2); rfl; rfl) | ((with_reducible apply x_le); exact Nat.le_of_ble_eq_true rfl))
      refine ⟨⟨Int.emod_nonneg _ (by omega), Int.emod_lt_of_pos _ h1⟩, _, rfl, ⟨c + 1, rest.set a (t / lim'), ?_, by rw [List.length_set]; exact hr, by omega, by omega⟩⟩
      show [MO.lst ((((c + 1) :: rest).map D.int).set (a + 1) (D.int (t / lim')))] = _
      rw [List.map_cons, List.set_cons_succ, List.map_cons, List.map_set]
    · repeat (first | ((with_reducible apply x_eq); with_reducible exact e0 _) | ((with_reducible apply x_eq); with_reducible exact e1) | ((with_reducible apply x_eq); with_reducible exact e2) | ((with_reducible apply x_eq); with_reducible exact e3) | ((with_reducible apply x_eq); ((with_reducible apply oMul_l); omega)) | ((with_reducible apply x_eq); ((with_reducible apply oMul_r); omega)) | ((with_reducible apply x_eq); ((with_reducible apply oFdiv_p); omega)) | ((with_reducible apply x_eq); ((with_reducible apply oMod_p); omega)) | ((with_reducible apply x_eq); ((with_reducible apply oPow_p) <;> omega)) | with_reducible apply w_seq | with_reducible apply w_ret | with_reducible apply w_ifS | with_reducible apply w_set | with_reducible apply w_C | with_reducible apply w_nil | with_reducible apply w_cons | with_reducible apply w_tup | with_reducible apply w_lst | with_reducible apply w_d2 | ((with_reducible apply w_var); rfl) | ((with_reducible apply w_varO); rfl) | with_reducible apply w_call | with_reducible apply w_test | with_reducible apply w_V1 | with_reducible apply w_V2 | with_reducible apply w_W2 | with_reducible apply w_chain | with_reducible apply w_tAnd | with_reducible apply w_tOr | with_reducible apply w_tNot | with_reducible apply w_tTrue | with_reducible apply w_and | with_reducible apply w_or | with_reducible apply w_not | with_reducible apply w_ifE | with_reducible apply w_isi | with_reducible apply w_dN | with_reducible apply w_d1 | ((with_reducible apply w_has); (apply x_has; rfl)) | ((with_reducible apply w_take); rfl) | ((with_reducible apply w_takeO); rfl) | with_reducible apply w_no | with_reducible apply w_at | with_reducible apply w_sl | with_reducible apply w_slV | with_reducible apply w_M1 | with_reducible apply w_fmt | with_reducible apply w_js0 | with_reducible apply w_js | with_reducible apply w_iAny | with_reducible apply w_iR1 | with_reducible apply w_iR2 | with_reducible apply w_for | with_reducible apply w_comp | with_reducible apply w_cc | with_reducible apply w_cn | with_reducible apply w_skip | with_reducible apply w_expr | with_reducible apply w_unp | with_reducible apply w_par2 | with_reducible apply w_par3 | with_reducible apply w_emp | with_reducible apply w_setObj | with_reducible apply w_raise | with_reducible apply w_catch | dsimp only [List.set_cons_zero, List.set_cons_succ, wipeD, frz_v, frz_o, frz_d] | ((with_reducible apply x_t); rfl) | ((with_reducible apply x_f); rfl) | ((with_reducible apply xi_int); rfl) | ((with_reducible apply xi_bool); rfl) | ((with_reducible apply xi_str); rfl) | ((with_reducible apply xi_tuple); rfl) | ((with_reducible apply xi_list); rfl) | ((with_reducible apply xi_dict); rfl) | ((with_reducible apply x_chain); rfl) | ((with_reducible apply x_bl); rfl) | ((with_reducible apply x_int); rfl) | ((with_reducible apply x_str); rfl) | ((with_reducible apply x_eq); rfl) | ((with_reducible apply x_intD); rfl) | ((with_reducible apply x_own); rfl) | ((with_reducible apply x_ow); rfl) | ((with_reducible apply x_owD); rfl) | ((with_reducible apply x_ob); rfl) | ((with_reducible apply x_mo); rfl) | ((with_reducible apply x_tp); rfl) | ((with_reducible apply x_intD2); rfl; rfl) | ((with_reducible apply x_le); exact Nat.le_of_ble_eq_true rfl))
      exact ⟨⟨Int.emod_nonneg _ (by omega), Int.emod_lt_of_pos _ h1⟩, _, rfl, ht1⟩
  · repeat (first | ((with_reducible apply x_eq); with_reducible exact e0 _) | ((with_reducible apply x_eq); with_reducible exact e1) | ((with_reducible apply x_eq); with_reducible exact e2) | ((with_reducible apply x_eq); with_reducible exact e3) | ((with_reducible apply x_eq); ((with_reducible apply oMul_l); omega)) | ((with_reducible apply x_eq); ((with_reducible apply oMul_r); omega)) | ((with_reducible apply x_eq); ((with_reducible apply oFdiv_p); omega)) | ((with_reducible apply x_eq); ((with_reducible apply oMod_p); omega)) | ((with_reducible apply x_eq); ((with_reducible apply oPow_p) <;> omega)) | with_reducible apply w_seq | with_reducible apply w_ret | with_reducible apply w_ifS | with_reducible apply w_set | with_reducible apply w_C | with_reducible apply w_nil | with_reducible apply w_cons | with_reducible apply w_tup | with_reducible apply w_lst | with_reducible apply w_d2 | ((with_reducible apply w_var); rfl) | ((with_reducible apply w_varO); rfl) | with_reducible apply w_call | with_reducible apply w_test | with_reducible apply w_V1 | with_reducible apply w_V2 | with_reducible apply w_W2 | with_reducible apply w_chain | with_reducible apply w_tAnd | with_reducible apply w_tOr | with_reducible apply w_tNot | with_reducible apply w_tTrue | with_reducible apply w_and | with_reducible apply w_or | with_reducible apply w_not | with_reducible apply w_ifE | with_reducible apply w_isi | with_reducible apply w_dN | with_reducible apply w_d1 | ((with_reducible apply w_has); (apply x_has; rfl)) | ((with_reducible apply w_take); rfl) | ((with_reducible apply w_takeO); rfl) | with_reducible apply w_no | with_reducible apply w_at | with_reducible apply w_sl | with_reducible apply w_slV | with_reducible apply w_M1 | with_reducible apply w_fmt | with_reducible apply w_js0 | with_reducible apply w_js | with_reducible apply w_iAny | with_reducible apply w_iR1 | with_reducible apply w_iR2 | with_reducible apply w_for | with_reducible apply w_comp | with_reducible apply w_cc | with_reducible apply w_cn | with_reducible apply w_skip | with_reducible apply w_expr | with_reducible apply w_unp | with_reducible apply w_par2 | with_reducible apply w_par3 | with_reducible apply w_emp | with_reducible apply w_setObj | with_reducible apply w_raise | with_reducible apply w_catch | dsimp only [List.set_cons_zero, List.set_cons_succ, wipeD, frz_v, frz_o, frz_d] | ((with_reducible apply x_t); rfl) | ((with_reducible apply x_f); rfl) | ((with_reducible apply xi_int); rfl) | ((with_reducible apply xi_bool); rfl) | ((with_reducible apply xi_str); rfl) | ((with_reducible apply xi_tuple); rfl) | ((with_reducible apply xi_list); rfl) | ((with_reducible apply xi_dict); rfl) | ((with_reducible apply x_chain); rfl) | ((with_reducible apply x_bl); rfl) | ((with_reducible apply x_int); rfl) | ((with_reducible apply x_str); rfl) | ((with_reducible apply x_eq); rfl) | ((with_reducible apply x_intD); rfl) | ((with_reducible apply x_own); rfl) | ((with_reducible apply x_ow); rfl) | ((with_reducible apply x_owD); rfl) | ((with_reducible apply x_ob); rfl) | ((with_reducible apply x_mo); rfl) | ((with_reducible apply x_tp); rfl) | ((with_reducible apply x_intD2); rfl; rfl) | ((with_reducible apply x_le); exact Nat.le_of_ble_eq_true rfl))
    exact ⟨⟨Int.emod_nonneg _ (by omega), Int.emod_lt_of_pos _ h1⟩, _, rfl, ht1⟩
/-- a draw, and what follows it -/
theorem pick_ok {ns : List Int} {k : Nat} {M : List MO} {ds : List D} (hn : ns.length ≤ 63) (ht : Town ns (k + 1) M) (h1 : ds ≠ []) (h2 : ds.length ≤ 1000000) :
    Ww NoX (r__law_pick [.scr ns, .obj 0, .lst ds] M) fun x s => ∃ d, x = .val d ∧ d ∈ ds ∧ ∃ M', s = ⟨[], M'⟩ ∧ Town ns k M' := by
  refine in__law_pick ?_
  unfold db__law_pick
  repeat (first | with_reducible apply w_seq | with_reducible apply w_ret | with_reducible apply w_ifS | with_reducible apply w_set | with_reducible apply w_C | with_reducible apply w_nil | with_reducible apply w_cons | with_reducible apply w_tup | with_reducible apply w_lst | with_reducible apply w_d2 | ((with_reducible apply w_var); rfl) | ((with_reducible apply w_varO); rfl) | with_reducible apply w_call | with_reducible apply w_test | with_reducible apply w_V1 | with_reducible apply w_V2 | with_reducible apply w_W2 | with_reducible apply w_chain | with_reducible apply w_tAnd | with_reducible apply w_tOr | with_reducible apply w_tNot | with_reducible apply w_tTrue | with_reducible apply w_and | with_reducible apply w_or | with_reducible apply w_not | with_reducible apply w_ifE | with_reducible apply w_isi | with_reducible apply w_dN | with_reducible apply w_d1 | ((with_reducible apply w_has); (apply x_has; rfl)) | ((with_reducible apply w_take); rfl) | ((with_reducible apply w_takeO); rfl) | with_reducible apply w_no | with_reducible apply w_at | with_reducible apply w_sl | with_reducible apply w_slV | with_reducible apply w_M1 | with_reducible apply w_fmt | with_reducible apply w_js0 | with_reducible apply w_js | with_reducible apply w_iAny | with_reducible apply w_iR1 | with_reducible apply w_iR2 | with_reducible apply w_for | with_reducible apply w_comp | with_reducible apply w_cc | with_reducible apply w_cn | with_reducible apply w_skip | with_reducible apply w_expr | with_reducible apply w_unp | with_reducible apply w_par2 | with_reducible apply w_par3 | with_reducible apply w_emp | with_reducible apply w_setObj | with_reducible apply w_raise | with_reducible apply w_catch | dsimp only [List.set_cons_zero, List.set_cons_succ, wipeD, frz_v, frz_o, frz_d] | ((with_reducible apply x_t); rfl) | ((with_reducible apply x_f); rfl) | ((with_reducible apply xi_int); rfl) | ((with_reducible apply xi_bool); rfl) | ((with_reducible apply xi_str); rfl) | ((with_reducible apply xi_tuple); rfl) | ((with_reducible apply xi_list); rfl) | ((with_reducible apply xi_dict); rfl) | ((with_reducible apply x_chain); rfl) | ((with_reducible apply x_bl); rfl) | ((with_reducible apply x_int); rfl) | ((with_reducible apply x_str); rfl) | ((with_reducible apply x_eq); rfl) | ((with_reducible apply x_intD); rfl) | ((with_reducible apply x_own); rfl) | ((with_reducible apply x_ow); rfl) | ((with_reducible apply x_owD); rfl) | ((with_reducible apply x_ob); rfl) | ((with_reducible apply x_mo); rfl) | ((with_reducible apply x_tp); rfl) | ((with_reducible apply x_intD2); rfl; rfl) | ((with_reducible apply x_le); exact Nat.le_of_ble_eq_true rfl))
  have hp : 0 < ds.length := by cases ds with
    | nil => exact absurd rfl h1
    | cons a r => simp
  refine (draw_ok hn ht (by omega) (by omega)).imp ?_
  rintro x s ⟨v, rfl, ⟨h3, h4⟩, M', rfl, ht'⟩
  obtain ⟨i, hi⟩ : ∃ i : Nat, v = i := ⟨v.toNat, by omega⟩
  have hl : i < ds.length := by omega
  refine ⟨_, rfl, _, oIx_atL (k := i) hi (List.getElem?_eq_getElem hl), _, rfl, List.getElem_mem _, M', rfl, ht'⟩
/-! the pairs of the law -/
end T82
namespace T82
open PySem DL
open PySem.W (dataLe sortLe sortLe_total keyToks keyToksAll)
/-! a drawn net: its pairs in order, and joined -/
theorem kLe_pair (a b c d : Int) : dataLe false keyP [a, b] [c, d] = (decide (a < c) || (decide (a = c) && decide (b ≤ d))) := by
  show (!PyProof.Rows.lexLt PyProof.Rows.itemOrd (keyToks (keyP [c, d])) (keyToks (keyP [a, b]))) = _
  have e : ∀ x y : Int, keyToks (keyP [x, y]) = [.inl 1, .inl x, .inl 1, .inl y, .inl 0] := fun x y => by
    simp [keyP, keyToks, keyToksAll]
  rw [e, e]
  show (!(decide ((1 : Int) < 1) || (!decide ((1 : Int) < 1) && (decide (c < a) || (!decide (a < c) && (decide ((1 : Int) < 1) || (!decide ((1 : Int) < 1) && (decide (d < b) || (!decide (b < d) && (decide ((0 : Int) < 0) || (!decide ((0 : Int) < 0) && false))))))))))) = _
  rw [Bool.eq_iff_iff]
  simp
  omega
theorem nodup_le : ∀ {l m : List Int}, l.Nodup → (∀ x ∈ l, x ∈ m) → l.length ≤ m.length
  | [], _, _, _ => Nat.zero_le _
  | a :: l, m, hn, h => by
    obtain ⟨h1, h2⟩ := List.nodup_cons.mp hn
    have ha := h a List.mem_cons_self
    have := nodup_le (l := l) (m := m.erase a) h2 fun x hx => (List.mem_erase_of_ne (a := x) (b := a) (fun e : x = a => h1 (by rw [← e]; exact hx))).mpr (h x (List.mem_cons_of_mem _ hx))
    rw [List.length_erase_of_mem ha] at this
    have : 0 < m.length := List.length_pos_of_mem ha
    simp; omega
theorem sortK_perm (ks : List (List Int)) : (sortK ks).Perm ks := List.mergeSort_perm _ _
theorem sortK_pair (ks : List (List Int)) : (sortK ks).Pairwise (fun a b => dataLe false keyP a b = true) := PySem.W.sort_pairwise (sortLe_total _ _ _) ks
/-- the lines that lie in a table -/
def keyL (l : Ln) : List Int := [l.1, l.2.1]
def lnOf (ks : List (List Int)) (vs : List D) (k : List Int) : Ln := match k with
  | [i, j] => (i, j, match kFind ks vs k with
    | some (.int r) => r
    | _ => 0)
  | _ => (0, 0, 0)
structure TabOk (p : Int) (ks : List (List Int)) (vs : List D) : Prop where
  len : vs.length = ks.length
  len8 : ks.length ≤ 8
  nd : ks.Nodup
  key : ∀ k ∈ ks, ∃ i j : Int, k = [i, j] ∧ 0 ≤ i ∧ i < j ∧ j ≤ p - 1
  val : ∀ v ∈ vs, ∃ r : Int, v = .int r ∧ 1 ≤ r ∧ r ≤ 100
theorem kFind_some : ∀ {ks : List (List Int)} {vs : List D} {k : List Int}, vs.length = ks.length → k ∈ ks → ∃ v, kFind ks vs k = some v ∧ v ∈ vs
  | k' :: ks, v :: vs, k, hl, h => by
    unfold kFind
    by_cases e : k' = k
    · rw [if_pos e]; exact ⟨v, rfl, List.mem_cons_self⟩
    · rw [if_neg e]
      obtain ⟨w, h1, h2⟩ := kFind_some (ks := ks) (vs := vs) (k := k) (by simpa using hl) ((List.mem_cons.mp h).resolve_left (Ne.symm e))
      exact ⟨w, h1, List.mem_cons_of_mem _ h2⟩
  | [], _, _, _, h => by cases h
  | _ :: _, [], _, hl, _ => by cases hl
theorem tab_line {p : Int} {ks : List (List Int)} {vs : List D} (h : TabOk p ks vs) {k : List Int} (hk : k ∈ ks) : ∃ i j r : Int, k = [i, j] ∧ kFind ks vs k = some (.int r) ∧ lnOf ks vs k = (i, j, r) ∧ okL p (i, j, r) := by
  obtain ⟨i, j, rfl, h1, h2, h3⟩ := h.key k hk
  obtain ⟨v, e, hv⟩ := kFind_some h.len hk
  obtain ⟨r, rfl, h4, h5⟩ := h.val v hv
  refine ⟨i, j, r, rfl, e, ?_, h1, h2, h3, h4, h5⟩
  unfold lnOf
  dsimp only
  rw [e]
theorem tab_add {p : Int} {ks : List (List Int)} {vs : List D} (h : TabOk p ks vs) {i j r : Int} (hn : [i, j] ∉ ks) (h8 : ks.length < 8) (h1 : 0 ≤ i ∧ i < j ∧ j ≤ p - 1) (h2 : 1 ≤ r ∧ r ≤ 100) :
    kPut ks vs [i, j] (.int r) = (ks ++ [[i, j]], vs ++ [.int r]) ∧ TabOk p (ks ++ [[i, j]]) (vs ++ [.int r]) := by
  refine ⟨by unfold kPut; rw [if_neg hn], ?_, ?_, ?_, ?_, ?_⟩
  · simp [h.len]
  · simp; omega
  · rw [List.nodup_append]
    refine ⟨h.nd, by simp, fun a ha b hb => ?_⟩
    rw [List.mem_singleton.mp hb]
    exact fun e => hn (e ▸ ha)
  · intro k hk
    rcases List.mem_append.mp hk with hk | hk
    · exact h.key k hk
    · exact ⟨i, j, List.mem_singleton.mp hk, h1⟩
  · intro v hv
    rcases List.mem_append.mp hv with hv | hv
    · exact h.val v hv
    · exact ⟨r, List.mem_singleton.mp hv, h2⟩
/-- the lines of a table, in order -/
def tabLines (ks : List (List Int)) (vs : List D) : List Ln := (sortK ks).map (lnOf ks vs)
theorem extM_sub {met : List Int} {i j x : Int} (h : x ∈ met) : x ∈ extM met i j := by
  unfold extM
  split
  · exact List.mem_append_left _ h
  · exact h
theorem passM_sub : ∀ {ls : List Ln} {met : List Int} {x : Int}, x ∈ met → x ∈ passM ls met
  | [], _, _, h => h
  | l :: ls, met, x, h => passM_sub (ls := ls) (extM_sub h)
theorem passM_in : ∀ {ls : List Ln} {met : List Int} {l : Ln}, l ∈ ls → l.1 ∈ met → l.2.1 ∈ passM ls met
  | a :: ls, met, l, h, hi => by
    rcases List.mem_cons.mp h with rfl | h
    · refine passM_sub (ls := ls) ?_
      show l.2.1 ∈ extM met l.1 l.2.1
      unfold extM
      by_cases hj : l.2.1 ∈ met
      · split
        · exact List.mem_append_left _ hj
        · exact hj
      · rw [if_pos (by simp [hi, hj])]
        exact List.mem_append_right _ (List.mem_filter.mpr ⟨by simp, by simp [hj]⟩)
    · exact passM_in (ls := ls) h (extM_sub hi)
theorem metN_all {ls : List Ln} {p : Nat} (h : ∀ j : Nat, 1 ≤ j → j < p → ∃ l ∈ ls, 0 ≤ l.1 ∧ l.1 < j ∧ l.2.1 = j) : ∀ n i : Nat, i ≤ n → i < p → (i : Int) ∈ metN ls n
  | 0, i, h1, _ => by
    have : i = 0 := by omega
    subst this
    exact List.mem_singleton.mpr rfl
  | n + 1, i, h1, h2 => by
    show (i : Int) ∈ passM ls (metN ls n)
    rcases Nat.lt_or_ge i (n + 1) with hi | hi
    · exact passM_sub (metN_all h n i (by omega) h2)
    · obtain ⟨l, hl, h3, h4, h5⟩ := h i (by omega) h2
      rw [← h5]
      refine passM_in hl ?_
      have := metN_all h n l.1.toNat (by omega) (by omega)
      rwa [show ((l.1.toNat : Nat) : Int) = l.1 from by omega] at this
theorem extM_ok {met : List Int} {i j p : Int} (hi : 0 ≤ i ∧ i < p) (hj : 0 ≤ j ∧ j < p) (hij : i ≠ j) (h : met.Nodup ∧ ∀ x ∈ met, 0 ≤ x ∧ x < p) : (extM met i j).Nodup ∧ ∀ x ∈ extM met i j, 0 ≤ x ∧ x < p := by
  unfold extM
  split
  · refine ⟨?_, ?_⟩
    · rw [List.nodup_append]
      refine ⟨h.1, List.Nodup.sublist (List.filter_sublist) (by simp [hij]), fun a ha b hb e => ?_⟩
      subst e
      have := (List.mem_filter.mp hb).2
      simp [ha] at this
    · intro x hx
      rcases List.mem_append.mp hx with hx | hx
      · exact h.2 x hx
      · have := (List.mem_filter.mp hx).1
        rcases List.mem_cons.mp this with rfl | this
        · exact hi
        · rw [List.mem_singleton.mp this]; exact hj
  · exact h
theorem passM_nice {p : Int} : ∀ {ls : List Ln} {met : List Int}, (∀ l ∈ ls, okL p l) → (met.Nodup ∧ ∀ x ∈ met, 0 ≤ x ∧ x < p) → (passM ls met).Nodup ∧ ∀ x ∈ passM ls met, 0 ≤ x ∧ x < p
  | [], _, _, h => h
  | l :: ls, met, hl, h => by
    have o := hl l List.mem_cons_self
    unfold okL at o
    exact passM_nice (ls := ls) (fun a ha => hl a (List.mem_cons_of_mem _ ha)) (extM_ok (by omega) (by omega) (by omega) h)
theorem metN_nice {p : Int} (hp : 0 < p) {ls : List Ln} (hl : ∀ l ∈ ls, okL p l) : ∀ n, (metN ls n).Nodup ∧ ∀ x ∈ metN ls n, 0 ≤ x ∧ x < p
  | 0 => ⟨by simp [metN], fun x hx => by rw [List.mem_singleton.mp hx]; omega⟩
  | n + 1 => passM_nice hl (metN_nice hp hl n)
theorem joined_of {p : Nat} (hp : 0 < p) {ls : List Ln} (hl : ∀ l ∈ ls, okL p l) (h : ∀ j : Nat, 1 ≤ j → j < p → ∃ l ∈ ls, 0 ≤ l.1 ∧ l.1 < j ∧ l.2.1 = j) : joinedB p ls = true := by
  have h1 := metN_nice (p := p) (by omega) hl p
  have h2 : ∀ i : Nat, i < p → (i : Int) ∈ metN ls p := fun i hi => metN_all h p i (by omega) hi
  have e : ((List.range p).map fun i : Nat => (i : Int)).Nodup := by
    refine List.Pairwise.map _ (R := (· ≠ ·)) (fun a b hab e => hab (by omega)) List.nodup_range
  have l1 : p ≤ (metN ls p).length := by
    have := nodup_le e (m := metN ls p) (fun x hx => by
      obtain ⟨i, hi, rfl⟩ := List.mem_map.mp hx
      exact h2 i (List.mem_range.mp hi))
    simpa using this
  have l2 : (metN ls p).length ≤ p := by
    have := nodup_le h1.1 (m := (List.range p).map fun i : Nat => (i : Int)) (fun x hx => by
      have := h1.2 x hx
      exact List.mem_map.mpr ⟨x.toNat, List.mem_range.mpr (by omega), by omega⟩)
    simpa using this
  unfold joinedB
  rw [show (p : Int).toNat = p from rfl]
  simp; omega
theorem tab_ord {p : Int} {ks : List (List Int)} {vs : List D} (h : TabOk p ks vs) : ordB (tabLines ks vs) = true := by
  unfold ordB
  rw [List.all_eq_true]
  intro k hk
  have hk := List.mem_range.mp hk
  have hl : (tabLines ks vs).length = (sortK ks).length := by unfold tabLines; rw [List.length_map]
  have h1 : k < (sortK ks).length := by omega
  have h2 : k + 1 < (sortK ks).length := by omega
  obtain ⟨i, j, r, ea, _, eb, _⟩ := tab_line h ((sortK_perm ks).mem_iff.mp (List.getElem_mem h1))
  obtain ⟨i', j', r', ea', _, eb', _⟩ := tab_line h ((sortK_perm ks).mem_iff.mp (List.getElem_mem h2))
  have hle := List.pairwise_iff_getElem.mp (sortK_pair ks) k (k + 1) h1 h2 (by omega)
  have hne := List.pairwise_iff_getElem.mp ((sortK_perm ks).nodup_iff.mpr h.nd) k (k + 1) h1 h2 (by omega)
  unfold cmpAt
  have g1 : (tabLines ks vs)[k]? = some (i, j, r) := by
    unfold tabLines; rw [List.getElem?_map, List.getElem?_eq_getElem h1]; exact congrArg some eb
  have g2 : (tabLines ks vs)[k + 1]? = some (i', j', r') := by
    unfold tabLines; rw [List.getElem?_map, List.getElem?_eq_getElem h2]; exact congrArg some eb'
  rw [g1, g2]
  rw [ea, ea', kLe_pair] at hle
  rw [ea, ea'] at hne
  show HT.lexLt [i, j] [i', j'] = true
  have hne' : ¬ (i = i' ∧ j = j') := fun e => hne (by rw [e.1, e.2])
  simp at hle
  rw [HT.lexLt_cons, HT.lexLt_cons]
  by_cases e : i = i'
  · rw [if_pos e, if_neg (by omega)]; simp; omega
  · rw [if_neg e]; simp; omega
theorem tab_net {p : Nat} {ks : List (List Int)} {vs : List D} (hp : 2 ≤ p ∧ p ≤ 5) (h : TabOk p ks vs) (ht : ∀ j : Nat, 1 ≤ j → j < p → ∃ i : Int, [i, (j : Int)] ∈ ks) : NetOk p (tabLines ks vs) := by
  have hl : ∀ l ∈ tabLines ks vs, okL p l := fun l hl => by
    obtain ⟨k, hk, rfl⟩ := List.mem_map.mp hl
    obtain ⟨i, j, r, e, _, e2, o⟩ := tab_line h ((sortK_perm ks).mem_iff.mp hk)
    rw [e2]; exact o
  refine ⟨by omega, by omega, ?_, hl, tab_ord h, joined_of (by omega) hl fun j h1 h2 => ?_⟩
  · unfold tabLines; rw [List.length_map, (sortK_perm ks).length_eq]; exact h.len8
  · obtain ⟨i, hi⟩ := ht j h1 h2
    obtain ⟨i', j', r, e, _, e2, o⟩ := tab_line h hi
    cases e
    unfold okL at o
    dsimp only at o
    exact ⟨(i, (j : Int), r), List.mem_map.mpr ⟨_, (sortK_perm ks).mem_iff.mpr hi, e2⟩, o.1, o.2.1, rfl⟩
end T82
namespace T82
open PySem DL
def pairsI (p i : Nat) : List (Int × Int) := (List.range (p - (i + 1))).map fun t : Nat => ((i : Int), (i : Int) + 1 + (t : Int))
def pairsOf (p : Nat) : Nat → List (Int × Int)
  | 0 => []
  | n + 1 => pairsOf p n ++ pairsI p n
def prD (q : Int × Int) : D := .tup [.int q.1, .int q.2]
theorem pairsI_len {p i : Nat} : (pairsI p i).length = p - (i + 1) := by simp [pairsI]
theorem pairsOf_len {p : Nat} (h : p ≤ 5) : ∀ n, n ≤ 5 → (pairsOf p n).length ≤ n * 5
  | 0, _ => Nat.zero_le _
  | n + 1, hn => by
    show (pairsOf p n ++ pairsI p n).length ≤ _
    rw [List.length_append, pairsI_len]
    have := pairsOf_len h n (by omega)
    omega
theorem pairsOf_ok {p : Nat} {q : Int × Int} : ∀ {n : Nat}, q ∈ pairsOf p n → 0 ≤ q.1 ∧ q.1 < q.2 ∧ q.2 ≤ (p : Int) - 1
  | n + 1, hq => by
    rcases List.mem_append.mp hq with hq | hq
    · exact pairsOf_ok hq
    · obtain ⟨t, ht, rfl⟩ := List.mem_map.mp hq
      have := List.mem_range.mp ht
      dsimp only; omega
theorem pairs_step {p n : Nat} {di : DI} (he : di = diR2 (d2 oAdd (dVar 2) (dC (.int 1))) (dVar 0)) (h : 2 ≤ p ∧ p ≤ 5) (hn : n < p) (a b : Option SV) (M : List MO) : Ww NoX (dSet 1 (d2 oAdd (dVar 1) (dComp [3] (.nm 3) di tTrue (dTup (dCons (dVar 2) (dCons (dVar 3) dNil))))) ⟨[some (.val (.int p)), some (.own ((pairsOf p n).map prD)), some (.val (.int n)), b], M⟩)
    fun f s1 => f = .nx ∧ s1.M = M ∧ ∃ a b, s1.ρ = [some (.val (.int p)), some (.own ((pairsOf p (n + 1)).map prD)), a, b] := by
    refine w_set ?_
    refine w_d2 ?_
    refine w_varO rfl ?_
    dsimp only [List.set_cons_zero, List.set_cons_succ]
    refine w_comp ?_
    rw [he]
    generalize he1 : d2 oAdd (dVar 2) (dC (.int 1)) = e1
    refine w_iR2 ?_
    rw [← he1]
    refine w_d2 ?_
    refine w_var rfl ?_
    refine w_C ?_
    refine x_eq (v := .val (.int ((n : Int) + 1))) rfl ?_
    refine w_var rfl ?_
    refine ⟨(n : Int) + 1, (p : Int), rfl, rfl, by omega, ?_⟩
    refine comp_nm (fun _ => true) (fun d => .tup [.int n, d]) (fun d hd' ρ' h1 h2 h3 => ⟨rfl, rfl⟩) (fun d hd' _ ρ' h1 h2 h3 => ?_) (by simp) (by simp) ?_
    · have g0 := h1 2 (by simp)
      refine w_tup (w_cons (w_var g0 (w_cons (w_var h3 (w_nil ⟨by simp, rfl, rfl⟩)))))
    · rw [flt_true]
      have em : (rngD ((n : Int) + 1) ((p : Int) - ((n : Int) + 1)).toNat).map (fun d => D.tup [.int n, d]) = (pairsI p n).map prD := by
        unfold rngD pairsI
        rw [List.map_map, List.map_map, show ((p : Int) - ((n : Int) + 1)).toNat = p - (n + 1) from by omega]
        rfl
      have ea : oAdd (.lst ((pairsOf p n).map prD)) (.lst ((pairsI p n).map prD)) = some (.own ((pairsOf p (n + 1)).map prD)) := by
        unfold oAdd
        dsimp only
        rw [if_pos (lim_ge (by
          rw [List.length_map, List.length_map, pairsI_len]
          have := pairsOf_len (p := p) h.2 n (by omega)
          omega)), ← List.map_append]
        rfl
      rw [em]
      exact ⟨_, ea, rfl, rfl, _, _, rfl⟩
theorem law_pairs_ok {p : Nat} (h : 2 ≤ p ∧ p ≤ 5) (M : List MO) : r__law_pairs [.int p] M = .ok (.own ((pairsOf p p).map prD)) ⟨[], M⟩ := by
  refine Ww.to_eq (in__law_pairs ?_)
  unfold db__law_pairs
  generalize he : diR2 (d2 oAdd (dVar 2) (dC (.int 1))) (dVar 0) = di
  repeat (first | with_reducible apply w_seq | with_reducible apply w_ret | with_reducible apply w_ifS | with_reducible apply w_set | with_reducible apply w_C | with_reducible apply w_nil | with_reducible apply w_cons | with_reducible apply w_tup | with_reducible apply w_lst | with_reducible apply w_d2 | ((with_reducible apply w_var); rfl) | ((with_reducible apply w_varO); rfl) | with_reducible apply w_call | with_reducible apply w_test | with_reducible apply w_V1 | with_reducible apply w_V2 | with_reducible apply w_W2 | with_reducible apply w_chain | with_reducible apply w_tAnd | with_reducible apply w_tOr | with_reducible apply w_tNot | with_reducible apply w_tTrue | with_reducible apply w_and | with_reducible apply w_or | with_reducible apply w_not | with_reducible apply w_ifE | with_reducible apply w_isi | with_reducible apply w_dN | with_reducible apply w_d1 | ((with_reducible apply w_has); (apply x_has; rfl)) | ((with_reducible apply w_take); rfl) | ((with_reducible apply w_takeO); rfl) | with_reducible apply w_no | with_reducible apply w_at | with_reducible apply w_sl | with_reducible apply w_slV | with_reducible apply w_M1 | with_reducible apply w_fmt | with_reducible apply w_js0 | with_reducible apply w_js | with_reducible apply w_iAny | with_reducible apply w_iR1 | with_reducible apply w_iR2 | with_reducible apply w_for | with_reducible apply w_comp | with_reducible apply w_cc | with_reducible apply w_cn | with_reducible apply w_skip | with_reducible apply w_expr | with_reducible apply w_unp | with_reducible apply w_par2 | with_reducible apply w_par3 | with_reducible apply w_emp | with_reducible apply w_setObj | with_reducible apply w_raise | with_reducible apply w_catch | dsimp only [List.set_cons_zero, List.set_cons_succ, wipeD, frz_v, frz_o, frz_d] | ((with_reducible apply x_t); rfl) | ((with_reducible apply x_f); rfl) | ((with_reducible apply xi_int); rfl) | ((with_reducible apply xi_bool); rfl) | ((with_reducible apply xi_str); rfl) | ((with_reducible apply xi_tuple); rfl) | ((with_reducible apply xi_list); rfl) | ((with_reducible apply xi_dict); rfl) | ((with_reducible apply x_chain); rfl) | ((with_reducible apply x_bl); rfl) | ((with_reducible apply x_int); rfl) | ((with_reducible apply x_str); rfl) | ((with_reducible apply x_eq); rfl) | ((with_reducible apply x_intD); rfl) | ((with_reducible apply x_own); rfl) | ((with_reducible apply x_ow); rfl) | ((with_reducible apply x_owD); rfl) | ((with_reducible apply x_ob); rfl) | ((with_reducible apply x_mo); rfl) | ((with_reducible apply x_tp); rfl) | ((with_reducible apply x_intD2); rfl; rfl) | ((with_reducible apply x_le); exact Nat.le_of_ble_eq_true rfl))
  refine ⟨by omega, ?_⟩
  refine w_forK (fun n s => s.M = M ∧ n ≤ p ∧ ∃ a b, s.ρ = [some (.val (.int p)), some (.own ((pairsOf p n).map prD)), a, b]) ⟨rfl, Nat.zero_le _, _, _, rfl⟩ (fun n d s hd hI => ?_) (fun s hI => ?_)
  · obtain ⟨rfl, hn, a, b, e⟩ := hI
    obtain ⟨ρ, M⟩ := s
    dsimp only at e
    subst e
    obtain ⟨h1, rfl⟩ := rngD_at hd
    have h1 : n < p := by omega
    refine ⟨_, rfl, ?_⟩
    rw [show (0 : Int) + n = n from by omega]
    exact (pairs_step he.symm h h1 a b M).imp fun f s1 q => by
      obtain ⟨rfl, e, a, b, e2⟩ := q
      exact ⟨e, h1, a, b, e2⟩
  · obtain ⟨rfl, hn, a, b, e⟩ := hI
    obtain ⟨ρ, M⟩ := s
    dsimp only at e
    subst e
    rw [rngD_len]
    show Ww _ _ _
    repeat (first | with_reducible apply w_seq | with_reducible apply w_ret | with_reducible apply w_ifS | with_reducible apply w_set | with_reducible apply w_C | with_reducible apply w_nil | with_reducible apply w_cons | with_reducible apply w_tup | with_reducible apply w_lst | with_reducible apply w_d2 | ((with_reducible apply w_var); rfl) | ((with_reducible apply w_varO); rfl) | with_reducible apply w_call | with_reducible apply w_test | with_reducible apply w_V1 | with_reducible apply w_V2 | with_reducible apply w_W2 | with_reducible apply w_chain | with_reducible apply w_tAnd | with_reducible apply w_tOr | with_reducible apply w_tNot | with_reducible apply w_tTrue | with_reducible apply w_and | with_reducible apply w_or | with_reducible apply w_not | with_reducible apply w_ifE | with_reducible apply w_isi | with_reducible apply w_dN | with_reducible apply w_d1 | ((with_reducible apply w_has); (apply x_has; rfl)) | ((with_reducible apply w_take); rfl) | ((with_reducible apply w_takeO); rfl) | with_reducible apply w_no | with_reducible apply w_at | with_reducible apply w_sl | with_reducible apply w_slV | with_reducible apply w_M1 | with_reducible apply w_fmt | with_reducible apply w_js0 | with_reducible apply w_js | with_reducible apply w_iAny | with_reducible apply w_iR1 | with_reducible apply w_iR2 | with_reducible apply w_for | with_reducible apply w_comp | with_reducible apply w_cc | with_reducible apply w_cn | with_reducible apply w_skip | with_reducible apply w_expr | with_reducible apply w_unp | with_reducible apply w_par2 | with_reducible apply w_par3 | with_reducible apply w_emp | with_reducible apply w_setObj | with_reducible apply w_raise | with_reducible apply w_catch | dsimp only [List.set_cons_zero, List.set_cons_succ, wipeD, frz_v, frz_o, frz_d] | ((with_reducible apply x_t); rfl) | ((with_reducible apply x_f); rfl) | ((with_reducible apply xi_int); rfl) | ((with_reducible apply xi_bool); rfl) | ((with_reducible apply xi_str); rfl) | ((with_reducible apply xi_tuple); rfl) | ((with_reducible apply xi_list); rfl) | ((with_reducible apply xi_dict); rfl) | ((with_reducible apply x_chain); rfl) | ((with_reducible apply x_bl); rfl) | ((with_reducible apply x_int); rfl) | ((with_reducible apply x_str); rfl) | ((with_reducible apply x_eq); rfl) | ((with_reducible apply x_intD); rfl) | ((with_reducible apply x_own); rfl) | ((with_reducible apply x_ow); rfl) | ((with_reducible apply x_owD); rfl) | ((with_reducible apply x_ob); rfl) | ((with_reducible apply x_mo); rfl) | ((with_reducible apply x_tp); rfl) | ((with_reducible apply x_intD2); rfl; rfl) | ((with_reducible apply x_le); exact Nat.le_of_ble_eq_true rfl))
    exact ⟨rfl, rfl⟩
/-- the rooms to pick from -/
def Rooms (sz : D) : Prop := ∃ rs : List Int, sz = .lst (rs.map .int) ∧ rs ≠ [] ∧ rs.length ≤ 3 ∧ ∀ r ∈ rs, 1 ≤ r ∧ r ≤ 100
theorem pick_room {ns : List Int} {k : Nat} {M : List MO} {sz : D} (hn : ns.length ≤ 63) (ht : Town ns (k + 1) M) (h : Rooms sz) :
    Ww NoX (r__law_pick [.scr ns, .obj 0, sz] M) fun x s => ∃ r : Int, x = .val (.int r) ∧ (1 ≤ r ∧ r ≤ 100) ∧ ∃ M', s = ⟨[], M'⟩ ∧ Town ns k M' := by
  obtain ⟨rs, rfl, h1, h2, h3⟩ := h
  refine (pick_ok hn ht (by cases rs with
    | nil => exact absurd rfl h1
    | cons a r => exact fun e => by cases e) (by rw [List.length_map]; omega)).imp ?_
  rintro x s ⟨d, rfl, hd, M', rfl, ht'⟩
  obtain ⟨r, hr, rfl⟩ := List.mem_map.mp hd
  exact ⟨r, rfl, h3 r hr, M', rfl, ht'⟩
end T82
namespace T82
open PySem DL
theorem net_step1 {ns : List Int} {k p j : Nat} {M : List MO} {sz : D} {ks : List (List Int)} {vs : List D} {a : Option SV} (hn : ns.length ≤ 63) (ht : Town ns (k + 2) M) (hp : p ≤ 5) (hj : 1 ≤ j ∧ j < p) (hr : Rooms sz) (tb : TabOk p ks vs) (hl : ks.length = j - 1) (hk : ∀ i : Nat, 1 ≤ i → i < j → ∃ x : Int, [x, (i : Int)] ∈ ks) (hk2 : ∀ x y : Int, [x, y] ∈ ks → y < j) :
    Ww NoX (dSetIx 4 (dCall r__law_pick (dCons (dVar 0) (dCons (dVar 1) (dCons (dVar 5) dNil)))) (dTup (dCons (dCall r__law_draw (dCons (dVar 0) (dCons (dVar 1) (dCons (dVar 6) dNil)))) (dCons (dVar 6) dNil)))
      ⟨[some (.val (.scr ns)), some (.val (.obj 0)), some (.val (.int 5)), some (.val (.int p)), some (.ownD ks vs), some (.val sz), some (.val (.int j)), none, none, none], M⟩)
      fun f s => f = .nx ∧ ∃ ks' vs' M', s = ⟨[some (.val (.scr ns)), some (.val (.obj 0)), some (.val (.int 5)), some (.val (.int p)), some (.ownD ks' vs'), some (.val sz), some (.val (.int j)), none, none, none], M'⟩ ∧ Town ns k M' ∧ TabOk p ks' vs' ∧ ks'.length = j ∧ (∀ i : Nat, 1 ≤ i → i < j + 1 → ∃ x : Int, [x, (i : Int)] ∈ ks') ∧ (∀ x y : Int, [x, y] ∈ ks' → y < ((j + 1 : Nat) : Int)) := by
  refine w_setIxD ?_
  refine w_call (w_cons (w_var rfl (w_cons (w_var rfl (w_cons (w_var rfl (w_nil ?_)))))))
  refine (pick_room (k := k + 1) hn ht hr).imp ?_
  rintro x s ⟨r, rfl, h1, M1, rfl, ht1⟩
  refine x_tr rfl ?_
  refine w_tup (w_cons (w_call (w_cons (w_var rfl (w_cons (w_var rfl (w_cons (w_var rfl (w_nil ?_)))))))))
  refine (draw_ok (k := k) hn ht1 (lim' := (j : Int)) (by omega) (by omega)).imp ?_
  rintro x s ⟨v, rfl, h2, M2, rfl, ht2⟩
  refine w_cons (w_var rfl (w_nil ⟨by simp, ?_⟩))
  obtain ⟨e, tb2⟩ := tab_add tb (i := v) (j := (j : Int)) (r := r) (fun h => by have := hk2 _ _ h; omega) (by omega) (by omega) h1
  refine ⟨ks, vs, rfl, _, rfl, [v, (j : Int)], rfl, lim_ge (by have := tb.len8; omega), ?_⟩
  rw [show frz (SV.val (D.int r)) = D.int r from rfl, e]
  refine ⟨rfl, _, _, _, rfl, ht2, tb2, by simp; omega, fun i h3 h4 => ?_, fun x y h => ?_⟩
  · rcases Nat.lt_or_ge i j with h | h
    · obtain ⟨x, hx⟩ := hk i h3 h
      exact ⟨x, List.mem_append_left _ hx⟩
    · exact ⟨v, List.mem_append_right _ (by rw [show i = j from by omega]; exact List.mem_singleton.mpr rfl)⟩
  · rcases List.mem_append.mp h with h | h
    · have := hk2 _ _ h; omega
    · have := List.mem_singleton.mp h
      simp at this
      omega
end T82
namespace T82
open PySem DL
/-- the frame of law_net -/
def netF (ns : List Int) (p : Nat) (ks : List (List Int)) (vs : List D) (sz : D) (a b c d : Option SV) : List (Option SV) :=
  [some (.val (.scr ns)), some (.val (.obj 0)), some (.val (.int 5)), some (.val (.int p)), some (.ownD ks vs), some (.val sz), a, b, c, d]
theorem net_step2 {ns : List Int} {k p : Nat} {M : List MO} {sz : D} {ks : List (List Int)} {vs : List D} {a : Option SV} {o : Int} {q : Int × Int} (hn : ns.length ≤ 63) (ht : Town ns (k + 2) M) (hp : p ≤ 5) (hr : Rooms sz) (tb : TabOk p ks vs) (hq : 0 ≤ q.1 ∧ q.1 < q.2 ∧ q.2 ≤ (p : Int) - 1) :
    Ww NoX (dIfS (tAndD (dTest (dW2 (oIn true) (dVar 8) 4)) (tAndD (dTest (d2 oLt (dV1 oLen 4) (dC (.int 8)))) (dTest (d2 oLt (dCall r__law_draw (dCons (dVar 0) (dCons (dVar 1) (dCons (dC (.int 3)) dNil)))) (dVar 7))))) (dSetIx 4 (dCall r__law_pick (dCons (dVar 0) (dCons (dVar 1) (dCons (dVar 5) dNil)))) (dVar 8)) dSkip
      ⟨netF ns p ks vs sz a (some (.val (.int o))) (some (.val (prD q))) none, M⟩)
      fun f s => f = .nx ∧ ∃ ks' vs' M', s = ⟨netF ns p ks' vs' sz a (some (.val (.int o))) (some (.val (prD q))) none, M'⟩ ∧ Town ns k M' ∧ TabOk p ks' vs' ∧ ∀ x ∈ ks, x ∈ ks' := by
  obtain ⟨i, j⟩ := q
  dsimp only at hq
  unfold netF
  refine w_ifS (w_tAnd (w_test (w_W2 (w_var rfl ⟨_, rfl, _, rfl, _, rfl, ?_⟩))))
  have skip : ∀ {M' : List MO}, Town ns k M' → Ww NoX (dSkip ⟨[some (.val (.scr ns)), some (.val (.obj 0)), some (.val (.int 5)), some (.val (.int p)), some (.ownD ks vs), some (.val sz), a, some (.val (.int o)), some (.val (prD (i, j))), none], M'⟩)
      fun f s => f = .nx ∧ ∃ ks' vs' M', s = ⟨[some (.val (.scr ns)), some (.val (.obj 0)), some (.val (.int 5)), some (.val (.int p)), some (.ownD ks' vs'), some (.val sz), a, some (.val (.int o)), some (.val (prD (i, j))), none], M'⟩ ∧ Town ns k M' ∧ TabOk p ks' vs' ∧ ∀ x ∈ ks, x ∈ ks' := fun h => w_skip ⟨rfl, _, _, _, rfl, h, tb, fun _ h => h⟩
  refine ⟨fun hc => ?_, fun _ => ⟨fun h => (by cases h), fun _ => skip (ht.less (by omega))⟩⟩
  have hni : [i, j] ∉ ks := by
    intro hin
    have : (!decide ([i, j] ∈ ks)) = true := hc
    simp [hin] at this
  refine w_tAnd (w_test (w_d2 (w_V1 ⟨_, rfl, _, rfl, w_C ⟨_, rfl, _, rfl, ?_⟩⟩)))
  refine ⟨fun hc2 => ?_, fun _ => ⟨fun h => (by cases h), fun _ => skip (ht.less (by omega))⟩⟩
  have h8 : ks.length < 8 := by
    have : decide ((ks.length : Int) < 8) = true := hc2
    have := of_decide_eq_true this
    omega
  refine w_test (w_d2 (w_call (w_cons (w_var rfl (w_cons (w_var rfl (w_cons (w_C (w_nil ?_)))))))))
  refine (draw_ok (k := k + 1) hn ht (lim' := 3) (by omega) (by omega)).imp ?_
  rintro x s ⟨v, rfl, h2, M2, rfl, ht2⟩
  refine w_var rfl ⟨_, rfl, _, rfl, ?_⟩
  refine ⟨fun _ => ?_, fun _ => skip (ht2.less (by omega))⟩
  refine w_setIxD ?_
  refine w_call (w_cons (w_var rfl (w_cons (w_var rfl (w_cons (w_var rfl (w_nil ?_)))))))
  refine (pick_room (k := k) hn ht2 hr).imp ?_
  rintro x s ⟨r, rfl, h1, M1, rfl, ht1⟩
  refine x_tr rfl ?_
  obtain ⟨e, tb2⟩ := tab_add tb (i := i) (j := j) (r := r) hni h8 hq h1
  refine w_var rfl ⟨ks, vs, rfl, _, rfl, [i, j], rfl, lim_ge (by omega), ?_⟩
  rw [show frz (SV.val (D.int r)) = D.int r from rfl, e]
  exact ⟨rfl, _, _, _, rfl, ht1, tb2, fun x h => List.mem_append_left _ h⟩
end T82
namespace T82
open PySem DL
theorem net_end {ns : List Int} {p : Nat} {M : List MO} {sz : D} {ks : List (List Int)} {vs : List D} {a b c : Option SV} (tb : TabOk p ks vs) :
    Ww NoX (dTup (dCons (dVar 3) (dCons (dN (on1 oTupOf) (dCons (dComp [9, 6] (.tp [(.nm 9), (.nm 6)]) (diAny (dV1 oSorted 4)) tTrue (dTup (dCons (dVar 9) (dCons (dVar 6) (dCons (dHas 4 (dV2 oIx 4 (dTup (dCons (dVar 9) (dCons (dVar 6) dNil))))) dNil))))) dNil)) dNil)) ⟨netF ns p ks vs sz a b c none, M⟩)
      fun x s => x = .val (netD p (tabLines ks vs)) ∧ s.M = M := by
  have hs : oSorted (.dct ks vs) = some (.own ((sortK ks).map keyD)) := by
    have hne : (ks.all fun k => !k.isEmpty) = true := by
      rw [List.all_eq_true]
      intro k hk
      obtain ⟨i, j, rfl, _⟩ := tb.key k hk
      rfl
    unfold oSorted
    dsimp only
    rw [if_pos ⟨hne, lim_ge (by have := tb.len8; omega)⟩]
  have hsl : (sortK ks).length ≤ 8 := by rw [(sortK_perm ks).length_eq]; exact tb.len8
  unfold netF
  refine w_tup (w_cons (w_var rfl (w_cons (w_dN (w_cons (w_comp (w_iAny (w_V1 ⟨_, rfl, _, hs, _, rfl, ?_⟩)))))))) 
  refine comp_g (at2 9 6) (fun _ => true) (fun d => match d with
    | .tup [.int i, .int j] => lnD (lnOf ks vs [i, j])
    | _ => .non) (fun d hd r hl => ?_) (fun d hd ρ' h1 h2 h3 => ⟨rfl, rfl⟩) (fun d hd _ ρ' h1 h2 h3 => ?_) ?_
  · obtain ⟨k, hk, rfl⟩ := List.mem_map.mp hd
    obtain ⟨i, j, r', rfl, _⟩ := tab_line tb ((sortK_perm ks).mem_iff.mp hk)
    exact set2 ⟨_, _, rfl⟩ (by rw [hl]; simp) (by rw [hl]; simp) (by omega) (by simp) (by simp)
  · obtain ⟨k, hk, rfl⟩ := List.mem_map.mp hd
    obtain ⟨i, j, r', rfl, e1, e2, _⟩ := tab_line tb ((sortK_perm ks).mem_iff.mp hk)
    obtain ⟨x, y, e, g1, g2⟩ := h3
    cases e
    have g4 := h1 4 (by simp)
    refine w_tup (w_cons (w_var g1 (w_cons (w_var g2 (w_cons ?_)))))
    have hv : view ⟨ρ', M⟩ 4 = some (.dct ks vs) := by
      unfold view
      dsimp only
      rw [g4]; rfl
    have hix : oIx (.dct ks vs) (.tup [.int i, .int j]) = some (.val (.int r')) := by
      show (kFind ks vs [i, j]).map SV.val = _
      rw [e1]; rfl
    refine w_has (x_has g4) (w_V2 (w_tup (w_cons (w_var g1 (w_cons (w_var g2 (w_nil ⟨by simp, _, hv, _, hix, w_nil ⟨by simp, ?_, rfl⟩⟩)))))))
    show D.tup [.int i, .int j, .int r'] = lnD (lnOf ks vs [i, j])
    rw [e2]; rfl
  · rw [flt_true]
    refine w_nil ⟨_, rfl, w_nil ⟨by simp, ?_, rfl⟩⟩
    have em : ((sortK ks).map keyD).map (fun d => match d with
        | .tup [.int i, .int j] => lnD (lnOf ks vs [i, j])
        | _ => .non) = (tabLines ks vs).map lnD := by
      unfold tabLines
      rw [List.map_map, List.map_map]
      refine List.map_congr_left fun k hk => ?_
      obtain ⟨i, j, r', rfl, _⟩ := tab_line tb ((sortK_perm ks).mem_iff.mp hk)
      rfl
    exact congrArg (fun l => SV.val (D.tup [.int p, .tup l])) em
theorem law_net_ok {ns : List Int} {k : Nat} {M : List MO} (hn : ns.length ≤ 63) (ht : Town ns (k + 80) M) :
    Ww NoX (r__law_net [.scr ns, .obj 0, .int 5] M) fun x s => ∃ p ls, x = .val (netD p ls) ∧ NetOk p ls ∧ ∃ M', s = ⟨[], M'⟩ ∧ Town ns k M' := by
  refine in__law_net ?_
  unfold db__law_net
  repeat (first | with_reducible apply w_seq | with_reducible apply w_ret | with_reducible apply w_ifS | with_reducible apply w_set | with_reducible apply w_C | with_reducible apply w_nil | with_reducible apply w_cons | with_reducible apply w_tup | with_reducible apply w_lst | with_reducible apply w_d2 | ((with_reducible apply w_var); rfl) | ((with_reducible apply w_varO); rfl) | with_reducible apply w_call | with_reducible apply w_test | with_reducible apply w_V1 | with_reducible apply w_V2 | with_reducible apply w_W2 | with_reducible apply w_chain | with_reducible apply w_tAnd | with_reducible apply w_tOr | with_reducible apply w_tNot | with_reducible apply w_tTrue | with_reducible apply w_and | with_reducible apply w_or | with_reducible apply w_not | with_reducible apply w_ifE | with_reducible apply w_isi | with_reducible apply w_dN | with_reducible apply w_d1 | ((with_reducible apply w_has); (apply x_has; rfl)) | ((with_reducible apply w_take); rfl) | ((with_reducible apply w_takeO); rfl) | with_reducible apply w_no | with_reducible apply w_at | with_reducible apply w_sl | with_reducible apply w_slV | with_reducible apply w_M1 | with_reducible apply w_fmt | with_reducible apply w_js0 | with_reducible apply w_js | with_reducible apply w_iAny | with_reducible apply w_iR1 | with_reducible apply w_iR2 | with_reducible apply w_for | with_reducible apply w_comp | with_reducible apply w_cc | with_reducible apply w_cn | with_reducible apply w_skip | with_reducible apply w_expr | with_reducible apply w_unp | with_reducible apply w_par2 | with_reducible apply w_par3 | with_reducible apply w_emp | with_reducible apply w_setObj | with_reducible apply w_raise | with_reducible apply w_catch | dsimp only [List.set_cons_zero, List.set_cons_succ, wipeD, frz_v, frz_o, frz_d] | ((with_reducible apply x_t); rfl) | ((with_reducible apply x_f); rfl) | ((with_reducible apply xi_int); rfl) | ((with_reducible apply xi_bool); rfl) | ((with_reducible apply xi_str); rfl) | ((with_reducible apply xi_tuple); rfl) | ((with_reducible apply xi_list); rfl) | ((with_reducible apply xi_dict); rfl) | ((with_reducible apply x_chain); rfl) | ((with_reducible apply x_bl); rfl) | ((with_reducible apply x_int); rfl) | ((with_reducible apply x_str); rfl) | ((with_reducible apply x_eq); rfl) | ((with_reducible apply x_intD); rfl) | ((with_reducible apply x_own); rfl) | ((with_reducible apply x_ow); rfl) | ((with_reducible apply x_owD); rfl) | ((with_reducible apply x_ob); rfl) | ((with_reducible apply x_mo); rfl) | ((with_reducible apply x_tp); rfl) | ((with_reducible apply x_intD2); rfl; rfl) | ((with_reducible apply x_le); exact Nat.le_of_ble_eq_true rfl))
  refine (draw_ok (k := k + 79) hn ht (lim' := 5 - 1) (by omega) (by omega)).imp ?_
  rintro x s ⟨v, rfl, h2, M2, rfl, ht2⟩
  obtain ⟨p, hp⟩ : ∃ p : Nat, 2 + v = p := ⟨(2 + v).toNat, by omega⟩
  refine ⟨.val (.int p), by rw [← hp]; rfl, w_emp ?_⟩
  show Ww _ _ _
  refine w_seq (w_set (w_call ?_))
  repeat (first | with_reducible apply w_seq | with_reducible apply w_ret | with_reducible apply w_ifS | with_reducible apply w_set | with_reducible apply w_C | with_reducible apply w_nil | with_reducible apply w_cons | with_reducible apply w_tup | with_reducible apply w_lst | with_reducible apply w_d2 | ((with_reducible apply w_var); rfl) | ((with_reducible apply w_varO); rfl) | with_reducible apply w_call | with_reducible apply w_test | with_reducible apply w_V1 | with_reducible apply w_V2 | with_reducible apply w_W2 | with_reducible apply w_chain | with_reducible apply w_tAnd | with_reducible apply w_tOr | with_reducible apply w_tNot | with_reducible apply w_tTrue | with_reducible apply w_and | with_reducible apply w_or | with_reducible apply w_not | with_reducible apply w_ifE | with_reducible apply w_isi | with_reducible apply w_dN | with_reducible apply w_d1 | ((with_reducible apply w_has); (apply x_has; rfl)) | ((with_reducible apply w_take); rfl) | ((with_reducible apply w_takeO); rfl) | with_reducible apply w_no | with_reducible apply w_at | with_reducible apply w_sl | with_reducible apply w_slV | with_reducible apply w_M1 | with_reducible apply w_fmt | with_reducible apply w_js0 | with_reducible apply w_js | with_reducible apply w_iAny | with_reducible apply w_iR1 | with_reducible apply w_iR2 | with_reducible apply w_for | with_reducible apply w_comp | with_reducible apply w_cc | with_reducible apply w_cn | with_reducible apply w_skip | with_reducible apply w_expr | with_reducible apply w_unp | with_reducible apply w_par2 | with_reducible apply w_par3 | with_reducible apply w_emp | with_reducible apply w_setObj | with_reducible apply w_raise | with_reducible apply w_catch | dsimp only [List.set_cons_zero, List.set_cons_succ, wipeD, frz_v, frz_o, frz_d] | ((with_reducible apply x_t); rfl) | ((with_reducible apply x_f); rfl) | ((with_reducible apply xi_int); rfl) | ((with_reducible apply xi_bool); rfl) | ((with_reducible apply xi_str); rfl) | ((with_reducible apply xi_tuple); rfl) | ((with_reducible apply xi_list); rfl) | ((with_reducible apply xi_dict); rfl) | ((with_reducible apply x_chain); rfl) | ((with_reducible apply x_bl); rfl) | ((with_reducible apply x_int); rfl) | ((with_reducible apply x_str); rfl) | ((with_reducible apply x_eq); rfl) | ((with_reducible apply x_intD); rfl) | ((with_reducible apply x_own); rfl) | ((with_reducible apply x_ow); rfl) | ((with_reducible apply x_owD); rfl) | ((with_reducible apply x_ob); rfl) | ((with_reducible apply x_mo); rfl) | ((with_reducible apply x_tp); rfl) | ((with_reducible apply x_intD2); rfl; rfl) | ((with_reducible apply x_le); exact Nat.le_of_ble_eq_true rfl))
  refine (pick_ok (k := k + 78) hn ht2 (by simp) (by simp)).imp ?_
  rintro x s ⟨sz, rfl, hd, M3, rfl, ht3⟩
  have hr : Rooms sz := by
    have g : ∀ rs : List Int, rs ≠ [] → rs.length ≤ 3 → (∀ r ∈ rs, 1 ≤ r ∧ r ≤ 100) → sz = .lst (rs.map .int) → Rooms sz := fun rs h1 h2 h3 h => ⟨rs, h, h1, h2, h3⟩
    simp only [List.mem_cons, List.not_mem_nil, or_false] at hd
    rcases hd with h | h | h
    · exact g [1] (by simp) (by simp) (by intro r hr; simp at hr; omega) h
    · exact g [1, 2, 3] (by simp) (by simp) (by intro r hr; simp at hr; omega) h
    · exact g [1, 5, 100] (by simp) (by simp) (by intro r hr; simp at hr; omega) h
  have hp5 : 2 ≤ p ∧ p ≤ 5 := by omega
  show Ww _ _ _
  refine w_seq (w_for (w_iR2 (w_C (w_var rfl ⟨1, _, rfl, rfl, by omega, ?_⟩))))
  refine w_forK (fun j s => ∃ a ks vs M', s = ⟨netF ns p ks vs sz a none none none, M'⟩ ∧ j ≤ p - 1 ∧ Town ns (k + 78 - 2 * j) M' ∧ TabOk p ks vs ∧ ks.length = j ∧ (∀ i : Nat, 1 ≤ i → i < j + 1 → ∃ x : Int, [x, (i : Int)] ∈ ks) ∧ (∀ x y : Int, [x, y] ∈ ks → y < ((j + 1 : Nat) : Int)))
    ⟨none, [], [], M3, rfl, Nat.zero_le _, ht3, ⟨rfl, by simp, List.nodup_nil, fun _ h => (by cases h), fun _ h => (by cases h)⟩, rfl, fun i h1 h2 => by omega, fun x y h => (by cases h)⟩ (fun j d s hd hI => ?_) (fun s hI => ?_)
  · obtain ⟨a, ks, vs, M', rfl, hj, ht', tb, hl, hk, hk2⟩ := hI
    obtain ⟨hj2, rfl⟩ := rngD_at hd
    refine ⟨_, rfl, ?_⟩
    rw [show (1 : Int) + (j : Int) = ((j + 1 : Nat) : Int) from by omega]
    refine (net_step1 (a := none) (k := k + 78 - 2 * (j + 1)) hn (ht'.less (by omega)) hp5.2 ⟨by omega, by omega⟩ hr tb (by omega) hk hk2).imp ?_
    rintro f s ⟨rfl, ks', vs', M4, rfl, q1, q2, q3, q4, q5⟩
    exact ⟨_, ks', vs', M4, rfl, by omega, q1, q2, q3, q4, q5⟩
  · obtain ⟨a, ks, vs, M', rfl, hj, ht', tb, hl, hk, hk2⟩ := hI
    rw [rngD_len] at hj ht' hl hk hk2
    have htree : ∀ i : Nat, 1 ≤ i → i < p → ∃ x : Int, [x, (i : Int)] ∈ ks := fun i h1 h2 => hk i h1 (by omega)
    have ht4 : Town ns (k + 70) M' := ht'.less (by omega)
    show Ww _ _ _
    refine w_seq (w_set (w_call (w_cons (w_var rfl (w_cons (w_var rfl (w_cons (w_C (w_nil ?_)))))))))
    refine (draw_ok (k := k + 69) hn ht4 (lim' := 4) (by omega) (by omega)).imp ?_
    rintro x s ⟨o, rfl, h3, M5, rfl, ht5⟩
    show Ww _ _ _
    refine w_seq (w_for (w_iAny (w_call (w_cons (w_var rfl (w_nil (Ww.eq (law_pairs_ok hp5 _) ⟨_, rfl, ?_⟩)))))))
    refine w_forK (fun j s => ∃ b ks' vs' M', s = ⟨netF ns p ks' vs' sz a (some (.val (.int o))) b none, M'⟩ ∧ j ≤ 25 ∧ Town ns (k + 69 - 2 * j) M' ∧ TabOk p ks' vs' ∧ ∀ x ∈ ks, x ∈ ks')
      ⟨none, ks, vs, M5, rfl, Nat.zero_le _, ht5, tb, fun _ h => h⟩ (fun j d s hd hI => ?_) (fun s hI => ?_)
    · obtain ⟨b, ks', vs', M6, rfl, hj, ht6, tb6, hsub⟩ := hI
      obtain ⟨q, hq, rfl⟩ := map_at hd
      have hj5 : j < 25 := by
        have h1 := (List.getElem?_eq_some_iff.mp hq).1
        have h2 := pairsOf_len hp5.2 p hp5.2
        omega
      refine ⟨_, rfl, ?_⟩
      refine (net_step2 (a := a) (o := o) (k := k + 69 - 2 * (j + 1)) hn (ht6.less (by omega)) hp5.2 hr tb6 (pairsOf_ok (List.mem_of_getElem? hq))).imp ?_
      rintro f s ⟨rfl, ks7, vs7, M7, rfl, q1, q2, q3⟩
      exact ⟨_, ks7, vs7, M7, rfl, by omega, q1, q2, fun x h => q3 x (hsub x h)⟩
    · obtain ⟨b, ks', vs', M6, rfl, hj, ht6, tb6, hsub⟩ := hI
      show Ww _ _ _
      refine w_ret ((net_end tb6).imp ?_)
      rintro x s ⟨rfl, e⟩
      exact ⟨_, _, rfl, tab_net hp5 tb6 fun i h1 h2 => by
        obtain ⟨x, hx⟩ := htree i h1 h2
        exact ⟨x, hsub _ hx⟩, _, rfl, e ▸ ht6.less (by omega)⟩
end T82
namespace T82
open PySem DL
theorem format_yes {p : Int} {ls : List Ln} (o : NetOk p ls) (hg : goodV (netD p ls) = true) (M : List MO) : r_format_net [netD p ls] M = .ok (.val (.str (sT (netT p ls)))) ⟨[], M⟩ := by
  obtain ⟨b, e, hb⟩ := is_net_ok hg M
  have hb := hb.mpr ⟨p, ls, rfl, o⟩
  subst hb
  have hc : r_check_net [netD p ls] M = .ok (.val .non) ⟨[], M⟩ := by
    refine Ww.to_eq (in_check_net ?_)
    unfold db_check_net
    refine w_ifS (w_tNot (w_test (w_call (w_cons (w_var rfl (w_nil (Ww.eq e ⟨_, rfl, ?_⟩)))))))
    refine ⟨fun h => (by cases h), fun _ => w_skip ⟨rfl, rfl⟩⟩
  refine Ww.to_eq (in_format_net ?_)
  unfold db_format_net
  refine w_seq (w_expr (w_call (w_cons (w_var rfl (w_nil (Ww.eq hc ?_))))))
  show Ww _ _ _
  exact w_ret (w_call (w_cons (w_var rfl (w_nil (Ww.eq (net_text_ok o _) ⟨rfl, rfl⟩)))))
theorem format_no {v : D} (hg : goodV v = true) (hn : ¬ isNet v) (M : List MO) : r_format_net [v] M = .exc "InvalidNet" M := by
  obtain ⟨b, e, hb⟩ := is_net_ok hg M
  have hb : b = false := by
    cases b with
    | false => rfl
    | true => exact absurd (hb.mp rfl) hn
  subst hb
  have hc : r_check_net [v] M = .exc "InvalidNet" M := by
    refine Ww.to_exc (in_check_net ?_)
    unfold db_check_net
    refine w_ifS (w_tNot (w_test (w_call (w_cons (w_var rfl (w_nil (Ww.eq e ⟨_, rfl, ?_⟩)))))))
    refine ⟨fun _ => w_raise ⟨rfl, rfl⟩, fun h => (by cases h)⟩
  refine Ww.to_exc (in_format_net ?_)
  unfold db_format_net
  refine w_seq (w_expr (w_call (w_cons (w_var rfl (w_nil (Ww.exc hc ⟨rfl, rfl⟩))))))
theorem call0_ok {x : D} {v : SV} {M M' : List MO} (h : r_parse_net [x] M = .ok v ⟨[], M'⟩) : r__law_call [.int 0, x] M = .ok v ⟨[], M'⟩ := by
  refine Ww.to_eq (in__law_call ?_)
  unfold db__law_call
  repeat (first | refine Ww.eq h ?_ | with_reducible apply w_seq | with_reducible apply w_ret | with_reducible apply w_ifS | with_reducible apply w_set | with_reducible apply w_C | with_reducible apply w_nil | with_reducible apply w_cons | with_reducible apply w_tup | with_reducible apply w_lst | with_reducible apply w_d2 | ((with_reducible apply w_var); rfl) | ((with_reducible apply w_varO); rfl) | with_reducible apply w_call | with_reducible apply w_test | with_reducible apply w_V1 | with_reducible apply w_V2 | with_reducible apply w_W2 | with_reducible apply w_chain | with_reducible apply w_tAnd | with_reducible apply w_tOr | with_reducible apply w_tNot | with_reducible apply w_tTrue | with_reducible apply w_and | with_reducible apply w_or | with_reducible apply w_not | with_reducible apply w_ifE | with_reducible apply w_isi | with_reducible apply w_dN | with_reducible apply w_d1 | ((with_reducible apply w_has); (apply x_has; rfl)) | ((with_reducible apply w_take); rfl) | ((with_reducible apply w_takeO); rfl) | with_reducible apply w_no | with_reducible apply w_at | with_reducible apply w_sl | with_reducible apply w_slV | with_reducible apply w_M1 | with_reducible apply w_fmt | with_reducible apply w_js0 | with_reducible apply w_js | with_reducible apply w_iAny | with_reducible apply w_iR1 | with_reducible apply w_iR2 | with_reducible apply w_for | with_reducible apply w_comp | with_reducible apply w_cc | with_reducible apply w_cn | with_reducible apply w_skip | with_reducible apply w_expr | with_reducible apply w_unp | with_reducible apply w_par2 | with_reducible apply w_par3 | with_reducible apply w_emp | with_reducible apply w_setObj | with_reducible apply w_raise | with_reducible apply w_catch | dsimp only [List.set_cons_zero, List.set_cons_succ, wipeD, frz_v, frz_o, frz_d] | ((with_reducible apply x_t); rfl) | ((with_reducible apply x_f); rfl) | ((with_reducible apply xi_int); rfl) | ((with_reducible apply xi_bool); rfl) | ((with_reducible apply xi_str); rfl) | ((with_reducible apply xi_tuple); rfl) | ((with_reducible apply xi_list); rfl) | ((with_reducible apply xi_dict); rfl) | ((with_reducible apply x_chain); rfl) | ((with_reducible apply x_bl); rfl) | ((with_reducible apply x_int); rfl) | ((with_reducible apply x_str); rfl) | ((with_reducible apply x_eq); rfl) | ((with_reducible apply x_intD); rfl) | ((with_reducible apply x_own); rfl) | ((with_reducible apply x_ow); rfl) | ((with_reducible apply x_owD); rfl) | ((with_reducible apply x_ob); rfl) | ((with_reducible apply x_mo); rfl) | ((with_reducible apply x_tp); rfl) | ((with_reducible apply x_intD2); rfl; rfl) | ((with_reducible apply x_le); exact Nat.le_of_ble_eq_true rfl))
  exact ⟨rfl, rfl⟩
theorem call0_no {x : D} {C : Str} {M M' : List MO} (h : r_parse_net [x] M = .exc C M') : r__law_call [.int 0, x] M = .exc C M' := by
  refine Ww.to_exc (in__law_call ?_)
  unfold db__law_call
  repeat (first | refine Ww.exc h ?_ | with_reducible apply w_seq | with_reducible apply w_ret | with_reducible apply w_ifS | with_reducible apply w_set | with_reducible apply w_C | with_reducible apply w_nil | with_reducible apply w_cons | with_reducible apply w_tup | with_reducible apply w_lst | with_reducible apply w_d2 | ((with_reducible apply w_var); rfl) | ((with_reducible apply w_varO); rfl) | with_reducible apply w_call | with_reducible apply w_test | with_reducible apply w_V1 | with_reducible apply w_V2 | with_reducible apply w_W2 | with_reducible apply w_chain | with_reducible apply w_tAnd | with_reducible apply w_tOr | with_reducible apply w_tNot | with_reducible apply w_tTrue | with_reducible apply w_and | with_reducible apply w_or | with_reducible apply w_not | with_reducible apply w_ifE | with_reducible apply w_isi | with_reducible apply w_dN | with_reducible apply w_d1 | ((with_reducible apply w_has); (apply x_has; rfl)) | ((with_reducible apply w_take); rfl) | ((with_reducible apply w_takeO); rfl) | with_reducible apply w_no | with_reducible apply w_at | with_reducible apply w_sl | with_reducible apply w_slV | with_reducible apply w_M1 | with_reducible apply w_fmt | with_reducible apply w_js0 | with_reducible apply w_js | with_reducible apply w_iAny | with_reducible apply w_iR1 | with_reducible apply w_iR2 | with_reducible apply w_for | with_reducible apply w_comp | with_reducible apply w_cc | with_reducible apply w_cn | with_reducible apply w_skip | with_reducible apply w_expr | with_reducible apply w_unp | with_reducible apply w_par2 | with_reducible apply w_par3 | with_reducible apply w_emp | with_reducible apply w_setObj | with_reducible apply w_raise | with_reducible apply w_catch | dsimp only [List.set_cons_zero, List.set_cons_succ, wipeD, frz_v, frz_o, frz_d] | ((with_reducible apply x_t); rfl) | ((with_reducible apply x_f); rfl) | ((with_reducible apply xi_int); rfl) | ((with_reducible apply xi_bool); rfl) | ((with_reducible apply xi_str); rfl) | ((with_reducible apply xi_tuple); rfl) | ((with_reducible apply xi_list); rfl) | ((with_reducible apply xi_dict); rfl) | ((with_reducible apply x_chain); rfl) | ((with_reducible apply x_bl); rfl) | ((with_reducible apply x_int); rfl) | ((with_reducible apply x_str); rfl) | ((with_reducible apply x_eq); rfl) | ((with_reducible apply x_intD); rfl) | ((with_reducible apply x_own); rfl) | ((with_reducible apply x_ow); rfl) | ((with_reducible apply x_owD); rfl) | ((with_reducible apply x_ob); rfl) | ((with_reducible apply x_mo); rfl) | ((with_reducible apply x_tp); rfl) | ((with_reducible apply x_intD2); rfl; rfl) | ((with_reducible apply x_le); exact Nat.le_of_ble_eq_true rfl))
  exact ⟨rfl, rfl⟩
theorem call1_no {x : D} {C : Str} {M M' : List MO} (h : r_format_net [x] M = .exc C M') : r__law_call [.int 1, x] M = .exc C M' := by
  refine Ww.to_exc (in__law_call ?_)
  unfold db__law_call
  repeat (first | refine Ww.exc h ?_ | with_reducible apply w_seq | with_reducible apply w_ret | with_reducible apply w_ifS | with_reducible apply w_set | with_reducible apply w_C | with_reducible apply w_nil | with_reducible apply w_cons | with_reducible apply w_tup | with_reducible apply w_lst | with_reducible apply w_d2 | ((with_reducible apply w_var); rfl) | ((with_reducible apply w_varO); rfl) | with_reducible apply w_call | with_reducible apply w_test | with_reducible apply w_V1 | with_reducible apply w_V2 | with_reducible apply w_W2 | with_reducible apply w_chain | with_reducible apply w_tAnd | with_reducible apply w_tOr | with_reducible apply w_tNot | with_reducible apply w_tTrue | with_reducible apply w_and | with_reducible apply w_or | with_reducible apply w_not | with_reducible apply w_ifE | with_reducible apply w_isi | with_reducible apply w_dN | with_reducible apply w_d1 | ((with_reducible apply w_has); (apply x_has; rfl)) | ((with_reducible apply w_take); rfl) | ((with_reducible apply w_takeO); rfl) | with_reducible apply w_no | with_reducible apply w_at | with_reducible apply w_sl | with_reducible apply w_slV | with_reducible apply w_M1 | with_reducible apply w_fmt | with_reducible apply w_js0 | with_reducible apply w_js | with_reducible apply w_iAny | with_reducible apply w_iR1 | with_reducible apply w_iR2 | with_reducible apply w_for | with_reducible apply w_comp | with_reducible apply w_cc | with_reducible apply w_cn | with_reducible apply w_skip | with_reducible apply w_expr | with_reducible apply w_unp | with_reducible apply w_par2 | with_reducible apply w_par3 | with_reducible apply w_emp | with_reducible apply w_setObj | with_reducible apply w_raise | with_reducible apply w_catch | dsimp only [List.set_cons_zero, List.set_cons_succ, wipeD, frz_v, frz_o, frz_d] | ((with_reducible apply x_t); rfl) | ((with_reducible apply x_f); rfl) | ((with_reducible apply xi_int); rfl) | ((with_reducible apply xi_bool); rfl) | ((with_reducible apply xi_str); rfl) | ((with_reducible apply xi_tuple); rfl) | ((with_reducible apply xi_list); rfl) | ((with_reducible apply xi_dict); rfl) | ((with_reducible apply x_chain); rfl) | ((with_reducible apply x_bl); rfl) | ((with_reducible apply x_int); rfl) | ((with_reducible apply x_str); rfl) | ((with_reducible apply x_eq); rfl) | ((with_reducible apply x_intD); rfl) | ((with_reducible apply x_own); rfl) | ((with_reducible apply x_ow); rfl) | ((with_reducible apply x_owD); rfl) | ((with_reducible apply x_ob); rfl) | ((with_reducible apply x_mo); rfl) | ((with_reducible apply x_tp); rfl) | ((with_reducible apply x_intD2); rfl; rfl) | ((with_reducible apply x_le); exact Nat.le_of_ble_eq_true rfl))
  exact ⟨rfl, rfl⟩
theorem w_isX1 {X : Str → List MO → Prop} {C t : Str} {a : DE} {s : Sx} {Q : SV → Sx → Prop} (hC : C ∈ DL.roadNames) (ht : t ∈ DL.roadNames) (h : Ww X (a s) fun v s1 => frz v = .exc C ∧ Q (.val (.bl (isX C t))) s1) : Ww X (dIsX (some t) a s) Q := by
  refine Ww.bind (h.imp fun v s1 q => ?_)
  rw [q.1]
  dsimp only
  rw [if_pos hC, if_pos ht]
  exact ⟨q.2⟩
theorem w_isX0 {X : Str → List MO → Prop} {C : Str} {a : DE} {s : Sx} {Q : SV → Sx → Prop} (hC : C ∈ DL.roadNames) (h : Ww X (a s) fun v s1 => frz v = .exc C ∧ Q (.val (.bl true)) s1) : Ww X (dIsX none a s) Q := by
  refine Ww.bind (h.imp fun v s1 q => ?_)
  rw [q.1]
  dsimp only
  rw [if_pos hC]
  exact ⟨q.2⟩
theorem w_Lm {X : Str → List MO → Prop} {op : D → List D → Option SV} {j : Nat} {a : DA} {s : Sx} {Q : SV → Sx → Prop} {ds0 : List D} (e0 : view s j = some (.lst ds0)) (h : Ww X (a s) fun xs s1 => ∃ ds, view s1 j = some (.lst ds) ∧ ∃ z, op (.lst ds) xs = some z ∧ Q z s1) : Ww X (dLm op j a s) Q := by
  unfold dLm
  rw [e0]
  refine Ww.bind (h.imp fun xs s1 q => ?_)
  obtain ⟨ds, e, q⟩ := q
  rw [e]; exact w_opt q
theorem lvls_bls : ∀ bs : List Bool, lvls (bs.map D.bl) = 0
  | [] => rfl
  | n :: r => by simp [lvls, lvl, lvls_bls r]
theorem lvls_strs : ∀ bs : List Str, lvls (bs.map D.str) = 0
  | [] => rfl
  | n :: r => by simp [lvls, lvl, lvls_strs r]
theorem count_bls (bs : List Bool) : oCount (.lst (bs.map .bl)) [.bl true] = some (.val (.int ((bs.countP fun b => b : Nat) : Int))) := by
  unfold oCount
  dsimp only
  rw [if_pos ⟨by rw [lvls_bls]; omega, by show (0 : Nat) ≤ 60; omega⟩, List.countP_map]
  have : ((fun z => eqv z (.bl true)) ∘ D.bl) = fun b => b := by funext b; show eqv (.bl b) (.bl true) = b; rw [eqv_bb]; cases b <;> rfl
  rw [this]
theorem index_bls {bs : List Bool} {j : Nat} (h : bs.findIdx? (fun b => b) = some j) : oIndex (.lst (bs.map .bl)) [.bl true] = some (.val (.int (j : Int))) := by
  unfold oIndex
  dsimp only
  rw [if_pos ⟨by rw [lvls_bls]; omega, by show (0 : Nat) ≤ 60; omega⟩, List.findIdx?_map]
  have : ((fun z => eqv z (.bl true)) ∘ D.bl) = fun b => b := by funext b; show eqv (.bl b) (.bl true) = b; rw [eqv_bb]; cases b <;> rfl
  rw [this, h]; rfl
theorem index_strs {bs : List Str} {x : Str} {j : Nat} (h : bs.findIdx? (fun b => decide (b = x)) = some j) : oIndex (.lst (bs.map .str)) [.str x] = some (.val (.int (j : Int))) := by
  unfold oIndex
  dsimp only
  rw [if_pos ⟨by rw [lvls_strs]; omega, by show (0 : Nat) ≤ 60; omega⟩, List.findIdx?_map]
  have : ((fun z => eqv z (.str x)) ∘ D.str) = fun b => decide (b = x) := by funext b; show eqv (.str b) (.str x) = _; rw [eqv_ss]
  rw [this, h]; rfl
def lawNames : List Str := ["net", "pair", "routing", "demands", "number", "share", "tree", "line", "names", "most", "text", "not_joined", "many", "undo"]
theorem raises_ok {x : Str} {j : Nat} (h : lawNames.findIdx? (fun b => decide (b = x)) = some j) (M : List MO) : r__law_raises [.str x] M = .ok (.val (.tup [.str "raised", .int j])) ⟨[], M⟩ := by
  refine Ww.to_eq (in__law_raises ?_)
  unfold db__law_raises
  repeat (first | with_reducible apply w_seq | with_reducible apply w_ret | with_reducible apply w_ifS | with_reducible apply w_set | with_reducible apply w_C | with_reducible apply w_nil | with_reducible apply w_cons | with_reducible apply w_tup | with_reducible apply w_lst | with_reducible apply w_d2 | ((with_reducible apply w_var); rfl) | ((with_reducible apply w_varO); rfl) | with_reducible apply w_call | with_reducible apply w_test | with_reducible apply w_V1 | with_reducible apply w_V2 | with_reducible apply w_W2 | with_reducible apply w_chain | with_reducible apply w_tAnd | with_reducible apply w_tOr | with_reducible apply w_tNot | with_reducible apply w_tTrue | with_reducible apply w_and | with_reducible apply w_or | with_reducible apply w_not | with_reducible apply w_ifE | with_reducible apply w_isi | with_reducible apply w_dN | with_reducible apply w_d1 | ((with_reducible apply w_has); (apply x_has; rfl)) | ((with_reducible apply w_take); rfl) | ((with_reducible apply w_takeO); rfl) | with_reducible apply w_no | with_reducible apply w_at | with_reducible apply w_sl | with_reducible apply w_slV | with_reducible apply w_M1 | with_reducible apply w_fmt | with_reducible apply w_js0 | with_reducible apply w_js | with_reducible apply w_iAny | with_reducible apply w_iR1 | with_reducible apply w_iR2 | with_reducible apply w_for | with_reducible apply w_comp | with_reducible apply w_cc | with_reducible apply w_cn | with_reducible apply w_skip | with_reducible apply w_expr | with_reducible apply w_unp | with_reducible apply w_par2 | with_reducible apply w_par3 | with_reducible apply w_emp | with_reducible apply w_setObj | with_reducible apply w_raise | with_reducible apply w_catch | dsimp only [List.set_cons_zero, List.set_cons_succ, wipeD, frz_v, frz_o, frz_d] | ((with_reducible apply x_t); rfl) | ((with_reducible apply x_f); rfl) | ((with_reducible apply xi_int); rfl) | ((with_reducible apply xi_bool); rfl) | ((with_reducible apply xi_str); rfl) | ((with_reducible apply xi_tuple); rfl) | ((with_reducible apply xi_list); rfl) | ((with_reducible apply xi_dict); rfl) | ((with_reducible apply x_chain); rfl) | ((with_reducible apply x_bl); rfl) | ((with_reducible apply x_int); rfl) | ((with_reducible apply x_str); rfl) | ((with_reducible apply x_eq); rfl) | ((with_reducible apply x_intD); rfl) | ((with_reducible apply x_own); rfl) | ((with_reducible apply x_ow); rfl) | ((with_reducible apply x_owD); rfl) | ((with_reducible apply x_ob); rfl) | ((with_reducible apply x_mo); rfl) | ((with_reducible apply x_tp); rfl) | ((with_reducible apply x_intD2); rfl; rfl) | ((with_reducible apply x_le); exact Nat.le_of_ble_eq_true rfl))
  refine w_Lm rfl (w_cons (w_var rfl (w_nil ⟨_, rfl, _, index_strs (bs := lawNames) h, w_nil ⟨by simp, rfl, rfl⟩⟩)))
theorem name_ok {C : Str} {j : Nat} (hC : C ∈ DL.roadNames) (h1 : (DL.roadNames.map (isX C)).countP (fun b => b) = 1) (h2 : (DL.roadNames.map (isX C)).findIdx? (fun b => b) = some j) (M : List MO) : r__law_name [.exc C] M = .ok (.val (.int j)) ⟨[], M⟩ := by
  refine Ww.to_eq (in__law_name ?_)
  unfold db__law_name
  refine w_seq (w_ifS (w_tNot (w_test (w_isX0 hC (w_var rfl ⟨rfl, _, rfl, ⟨fun h => (by cases h), fun _ => w_skip ?_⟩⟩)))))
  show Ww _ _ _
  repeat (first | ((with_reducible apply w_isX1); exact hC; (decide +kernel)) | (refine And.intro rfl ?_) | with_reducible apply w_seq | with_reducible apply w_ret | with_reducible apply w_ifS | with_reducible apply w_set | with_reducible apply w_C | with_reducible apply w_nil | with_reducible apply w_cons | with_reducible apply w_tup | with_reducible apply w_lst | with_reducible apply w_d2 | ((with_reducible apply w_var); rfl) | ((with_reducible apply w_varO); rfl) | with_reducible apply w_call | with_reducible apply w_test | with_reducible apply w_V1 | with_reducible apply w_V2 | with_reducible apply w_W2 | with_reducible apply w_chain | with_reducible apply w_tAnd | with_reducible apply w_tOr | with_reducible apply w_tNot | with_reducible apply w_tTrue | with_reducible apply w_and | with_reducible apply w_or | with_reducible apply w_not | with_reducible apply w_ifE | with_reducible apply w_isi | with_reducible apply w_dN | with_reducible apply w_d1 | ((with_reducible apply w_has); (apply x_has; rfl)) | ((with_reducible apply w_take); rfl) | ((with_reducible apply w_takeO); rfl) | with_reducible apply w_no | with_reducible apply w_at | with_reducible apply w_sl | with_reducible apply w_slV | with_reducible apply w_M1 | with_reducible apply w_fmt | with_reducible apply w_js0 | with_reducible apply w_js | with_reducible apply w_iAny | with_reducible apply w_iR1 | with_reducible apply w_iR2 | with_reducible apply w_for | with_reducible apply w_comp | with_reducible apply w_cc | with_reducible apply w_cn | with_reducible apply w_skip | with_reducible apply w_expr | with_reducible apply w_unp | with_reducible apply w_par2 | with_reducible apply w_par3 | with_reducible apply w_emp | with_reducible apply w_setObj | with_reducible apply w_raise | with_reducible apply w_catch | dsimp only [List.set_cons_zero, List.set_cons_succ, wipeD, frz_v, frz_o, frz_d] | ((with_reducible apply x_t); rfl) | ((with_reducible apply x_f); rfl) | ((with_reducible apply xi_int); rfl) | ((with_reducible apply xi_bool); rfl) | ((with_reducible apply xi_str); rfl) | ((with_reducible apply xi_tuple); rfl) | ((with_reducible apply xi_list); rfl) | ((with_reducible apply xi_dict); rfl) | ((with_reducible apply x_chain); rfl) | ((with_reducible apply x_bl); rfl) | ((with_reducible apply x_int); rfl) | ((with_reducible apply x_str); rfl) | ((with_reducible apply x_eq); rfl) | ((with_reducible apply x_intD); rfl) | ((with_reducible apply x_own); rfl) | ((with_reducible apply x_ow); rfl) | ((with_reducible apply x_owD); rfl) | ((with_reducible apply x_ob); rfl) | ((with_reducible apply x_mo); rfl) | ((with_reducible apply x_tp); rfl) | ((with_reducible apply x_intD2); rfl; rfl) | ((with_reducible apply x_le); exact Nat.le_of_ble_eq_true rfl))
  have hc := count_bls (DL.roadNames.map (isX C))
  have hi := index_bls h2
  rw [h1] at hc
  refine w_Lm rfl (w_cons (w_C (w_nil ⟨_, rfl, _, hc, w_C ⟨_, rfl, true, ?_, ?_, fun h => (by cases h)⟩⟩)))
  · show SV.val (.bl (eqv (.int ((1 : Nat) : Int)) (.int 1))) = _
    rw [eqv_ii]; rfl
  · intro _
    exact w_Lm rfl (w_cons (w_C (w_nil ⟨_, rfl, _, hi, rfl, rfl⟩)))
theorem nm_text (M : List MO) : r__law_name [.exc "InvalidText"] M = .ok (.val (.int 10)) ⟨[], M⟩ := name_ok (j := 10) (by decide +kernel) (by decide +kernel) (by decide +kernel) M
theorem nm_net (M : List MO) : r__law_name [.exc "InvalidNet"] M = .ok (.val (.int 0)) ⟨[], M⟩ := name_ok (j := 0) (by decide +kernel) (by decide +kernel) (by decide +kernel) M
theorem rs_text (M : List MO) : r__law_raises [.str "text"] M = .ok (.val (.tup [.str "raised", .int 10])) ⟨[], M⟩ := raises_ok (j := 10) (by decide +kernel) M
theorem rs_net (M : List MO) : r__law_raises [.str "net"] M = .ok (.val (.tup [.str "raised", .int 0])) ⟨[], M⟩ := raises_ok (j := 0) (by decide +kernel) M
theorem outcome_yes {i : Int} {x v : D} {M : List MO} (hv : v ≠ .non) (h : r__law_call [.int i, x] M = .ok (.val v) ⟨[], M⟩) : r__law_outcome [.int i, x] M = .ok (.val (.tup [.str "returned", v])) ⟨[], M⟩ := by
  refine Ww.to_eq (in__law_outcome ?_)
  unfold db__law_outcome
  refine w_seq (w_set (w_C (w_seq (w_set (w_C (w_seq (w_catch (w_set (w_call (w_cons (w_var rfl (w_cons (w_var rfl (w_nil (Ww.eq h ?_)))))))))))))))
  show Ww _ _ _
  dsimp only [List.set_cons_zero, List.set_cons_succ]
  repeat (first | with_reducible apply w_seq | with_reducible apply w_ret | with_reducible apply w_ifS | with_reducible apply w_set | with_reducible apply w_C | with_reducible apply w_nil | with_reducible apply w_cons | with_reducible apply w_tup | with_reducible apply w_lst | with_reducible apply w_d2 | ((with_reducible apply w_var); rfl) | ((with_reducible apply w_varO); rfl) | with_reducible apply w_call | with_reducible apply w_test | with_reducible apply w_V1 | with_reducible apply w_V2 | with_reducible apply w_W2 | with_reducible apply w_chain | with_reducible apply w_tAnd | with_reducible apply w_tOr | with_reducible apply w_tNot | with_reducible apply w_tTrue | with_reducible apply w_and | with_reducible apply w_or | with_reducible apply w_not | with_reducible apply w_ifE | with_reducible apply w_isi | with_reducible apply w_dN | with_reducible apply w_d1 | ((with_reducible apply w_has); (apply x_has; rfl)) | ((with_reducible apply w_take); rfl) | ((with_reducible apply w_takeO); rfl) | with_reducible apply w_no | with_reducible apply w_at | with_reducible apply w_sl | with_reducible apply w_slV | with_reducible apply w_M1 | with_reducible apply w_fmt | with_reducible apply w_js0 | with_reducible apply w_js | with_reducible apply w_iAny | with_reducible apply w_iR1 | with_reducible apply w_iR2 | with_reducible apply w_for | with_reducible apply w_comp | with_reducible apply w_cc | with_reducible apply w_cn | with_reducible apply w_skip | with_reducible apply w_expr | with_reducible apply w_unp | with_reducible apply w_par2 | with_reducible apply w_par3 | with_reducible apply w_emp | with_reducible apply w_setObj | with_reducible apply w_raise | with_reducible apply w_catch | dsimp only [List.set_cons_zero, List.set_cons_succ, wipeD, frz_v, frz_o, frz_d] | ((with_reducible apply x_t); rfl) | ((with_reducible apply x_f); rfl) | ((with_reducible apply xi_int); rfl) | ((with_reducible apply xi_bool); rfl) | ((with_reducible apply xi_str); rfl) | ((with_reducible apply xi_tuple); rfl) | ((with_reducible apply xi_list); rfl) | ((with_reducible apply xi_dict); rfl) | ((with_reducible apply x_chain); rfl) | ((with_reducible apply x_bl); rfl) | ((with_reducible apply x_int); rfl) | ((with_reducible apply x_str); rfl) | ((with_reducible apply x_eq); rfl) | ((with_reducible apply x_intD); rfl) | ((with_reducible apply x_own); rfl) | ((with_reducible apply x_ow); rfl) | ((with_reducible apply x_owD); rfl) | ((with_reducible apply x_ob); rfl) | ((with_reducible apply x_mo); rfl) | ((with_reducible apply x_tp); rfl) | ((with_reducible apply x_intD2); rfl; rfl) | ((with_reducible apply x_le); exact Nat.le_of_ble_eq_true rfl))
  exact ⟨rfl, rfl⟩
theorem outcome_no {i : Int} {x : D} {C : Str} {j : Int} {M : List MO} (hC : C ∈ DL.roadNames) (h : r__law_call [.int i, x] M = .exc C M) (hn : r__law_name [.exc C] M = .ok (.val (.int j)) ⟨[], M⟩) : r__law_outcome [.int i, x] M = .ok (.val (.tup [.str "raised", .int j])) ⟨[], M⟩ := by
  refine Ww.to_eq (in__law_outcome ?_)
  unfold db__law_outcome
  refine w_seq (w_set (w_C (w_seq (w_set (w_C (w_seq (w_catch (w_set (w_call (w_cons (w_var rfl (w_cons (w_var rfl (w_nil (Ww.exc h ⟨hC, ?_⟩)))))))))))))))
  show Ww _ _ _
  dsimp only [List.replicate, List.set_cons_zero, List.set_cons_succ]
  repeat (first | (refine Ww.eq hn ?_) | with_reducible apply w_seq | with_reducible apply w_ret | with_reducible apply w_ifS | with_reducible apply w_set | with_reducible apply w_C | with_reducible apply w_nil | with_reducible apply w_cons | with_reducible apply w_tup | with_reducible apply w_lst | with_reducible apply w_d2 | ((with_reducible apply w_var); rfl) | ((with_reducible apply w_varO); rfl) | with_reducible apply w_call | with_reducible apply w_test | with_reducible apply w_V1 | with_reducible apply w_V2 | with_reducible apply w_W2 | with_reducible apply w_chain | with_reducible apply w_tAnd | with_reducible apply w_tOr | with_reducible apply w_tNot | with_reducible apply w_tTrue | with_reducible apply w_and | with_reducible apply w_or | with_reducible apply w_not | with_reducible apply w_ifE | with_reducible apply w_isi | with_reducible apply w_dN | with_reducible apply w_d1 | ((with_reducible apply w_has); (apply x_has; rfl)) | ((with_reducible apply w_take); rfl) | ((with_reducible apply w_takeO); rfl) | with_reducible apply w_no | with_reducible apply w_at | with_reducible apply w_sl | with_reducible apply w_slV | with_reducible apply w_M1 | with_reducible apply w_fmt | with_reducible apply w_js0 | with_reducible apply w_js | with_reducible apply w_iAny | with_reducible apply w_iR1 | with_reducible apply w_iR2 | with_reducible apply w_for | with_reducible apply w_comp | with_reducible apply w_cc | with_reducible apply w_cn | with_reducible apply w_skip | with_reducible apply w_expr | with_reducible apply w_unp | with_reducible apply w_par2 | with_reducible apply w_par3 | with_reducible apply w_emp | with_reducible apply w_setObj | with_reducible apply w_raise | with_reducible apply w_catch | dsimp only [List.set_cons_zero, List.set_cons_succ, wipeD, frz_v, frz_o, frz_d] | ((with_reducible apply x_t); rfl) | ((with_reducible apply x_f); rfl) | ((with_reducible apply xi_int); rfl) | ((with_reducible apply xi_bool); rfl) | ((with_reducible apply xi_str); rfl) | ((with_reducible apply xi_tuple); rfl) | ((with_reducible apply xi_list); rfl) | ((with_reducible apply xi_dict); rfl) | ((with_reducible apply x_chain); rfl) | ((with_reducible apply x_bl); rfl) | ((with_reducible apply x_int); rfl) | ((with_reducible apply x_str); rfl) | ((with_reducible apply x_eq); rfl) | ((with_reducible apply x_intD); rfl) | ((with_reducible apply x_own); rfl) | ((with_reducible apply x_ow); rfl) | ((with_reducible apply x_owD); rfl) | ((with_reducible apply x_ob); rfl) | ((with_reducible apply x_mo); rfl) | ((with_reducible apply x_tp); rfl) | ((with_reducible apply x_intD2); rfl; rfl) | ((with_reducible apply x_le); exact Nat.le_of_ble_eq_true rfl))
  exact ⟨rfl, rfl⟩
end T82
namespace T82
open PySem DL
theorem out_yes {p : Int} {ls : List Ln} (o : NetOk p ls) (M : List MO) : r__law_outcome [.int 0, .str (sT (netT p ls))] M = .ok (.val (.tup [.str "returned", netD p ls])) ⟨[], M⟩ :=
  outcome_yes (by unfold netD; exact fun h => (by cases h)) (call0_ok (parse_yes o M))
theorem out_bad {x : D} {M : List MO} (h : r_parse_net [x] M = .exc "InvalidText" M) : r__law_outcome [.int 0, x] M = .ok (.val (.tup [.str "raised", .int 10])) ⟨[], M⟩ :=
  outcome_no (by decide +kernel) (call0_no h) (nm_text M)
theorem out_text {l : List Nat} (h : okC l = true) (M : List MO) :
    (∃ p ls, NetOk p ls ∧ netT p ls = l ∧ r__law_outcome [.int 0, .str (sT l)] M = .ok (.val (.tup [.str "returned", netD p ls])) ⟨[], M⟩) ∨
    ((∀ p ls, NetOk p ls → netT p ls ≠ l) ∧ r__law_outcome [.int 0, .str (sT l)] M = .ok (.val (.tup [.str "raised", .int 10])) ⟨[], M⟩) := by
  rcases parse_ok h M with ⟨p, ls, o, e, _, hp⟩ | ⟨hn, hp⟩
  · exact .inl ⟨p, ls, o, e, outcome_yes (by unfold netD; exact fun h => (by cases h)) (call0_ok hp)⟩
  · refine .inr ⟨fun p ls o e => ?_, out_bad hp⟩
    subst e
    exact hn p ls o (found_net o) rfl
theorem out_net {v : D} (hg : goodV v = true) (hn : ¬ isNet v) (M : List MO) : r__law_outcome [.int 1, v] M = .ok (.val (.tup [.str "raised", .int 0])) ⟨[], M⟩ :=
  outcome_no (by decide +kernel) (call1_no (format_no hg hn M)) (nm_net M)
/-- what is no text is no net's text -/
theorem parse_other {v : D} (h : isiStr v = some false) (M : List MO) : r_parse_net [v] M = .exc "InvalidText" M := by
  refine Ww.to_exc (in_parse_net ?_)
  unfold db_parse_net
  exact w_seq (w_ifS (w_tNot (w_test (w_isi (w_var rfl (xi_str h ⟨_, rfl, fun _ => w_raise ⟨rfl, rfl⟩, fun h => (by cases h)⟩))))))
theorem joinL_snoc {c : Nat} {y : List Nat} : ∀ {a : List Nat} {xs : List (List Nat)}, joinL c (a :: (xs ++ [y])) = joinL c (a :: xs) ++ c :: y
  | a, [] => rfl
  | a, x :: xs => by
    show a ++ c :: joinL c (x :: (xs ++ [y])) = (a ++ c :: joinL c (x :: xs)) ++ c :: y
    rw [joinL_snoc (a := x) (xs := xs)]; simp
theorem netT_snoc {p : Int} {ls : List Ln} {l : Ln} : netT p (ls ++ [l]) = netT p ls ++ 32 :: lineT l := by
  unfold netT
  rw [List.map_append]
  exact joinL_snoc
end T82
namespace T82
open PySem DL
open TL (numL)
theorem add_str {a b : List Nat} (h : a.length + b.length ≤ 1000) : oAdd (.str (sT a)) (.str (sT b)) = some (.val (.str (sT (a ++ b)))) := by
  unfold oAdd
  dsimp only
  rw [if_pos (lim_ge (by show a.length + b.length ≤ 1000; exact h)), sT_app]
theorem text_step {ρ : List (Option SV)} {M : List MO} {T : List Nat} {l : Ln} {QF : Fl → Sx → Prop} (h3 : ρ[3]? = some (some (.val (.str (sT T))))) (h4 : ρ[4]? = some (some (.val (.int l.1)))) (h5 : ρ[5]? = some (some (.val (.int l.2.1)))) (h6 : ρ[6]? = some (some (.val (.int l.2.2)))) (o : okL 5 l) (hT : T.length ≤ 200)
    (q : QF .nx ⟨ρ.set 3 (some (.val (.str (sT (T ++ 32 :: lineT l))))), M⟩) :
    Ww NoX (dSet 3 (d2 oAdd (d2 oAdd (d2 oAdd (d2 oAdd (d2 oAdd (d2 oAdd (dVar 3) (dC (.str " "))) (dN (on1 oStr) (dCons (dVar 4) dNil))) (dC (.str "-"))) (dN (on1 oStr) (dCons (dVar 5) dNil))) (dC (.str "="))) (dN (on1 oStr) (dCons (dVar 6) dNil))) ⟨ρ, M⟩) QF := by
  unfold okL at o
  have n1 := numL3 (n := l.1.toNat) (by omega)
  have n2 := numL3 (n := l.2.1.toNat) (by omega)
  have n3 := numL3 (n := l.2.2.toNat) (by omega)
  rw [s_space, s_dash, s_eq]
  refine w_set (w_d2 (w_d2 (w_d2 (w_d2 (w_d2 (w_d2 (w_var h3 (w_C ⟨_, add_str (a := T) (b := [32]) (by simp; omega), ?_⟩))))))))
  refine w_dN (w_cons (w_var h4 (w_nil ⟨_, oStr_num (by omega) (by omega), _, add_str (by simp; omega), ?_⟩)))
  refine w_C ⟨_, add_str (by simp; omega), ?_⟩
  refine w_dN (w_cons (w_var h5 (w_nil ⟨_, oStr_num (by omega) (by omega), _, add_str (by simp; omega), ?_⟩)))
  refine w_C ⟨_, add_str (by simp; omega), ?_⟩
  refine w_dN (w_cons (w_var h6 (w_nil ⟨_, oStr_num (by omega) (by omega), _, add_str (by simp; omega), ?_⟩)))
  have e : T ++ [32] ++ numL l.1.toNat ++ [45] ++ numL l.2.1.toNat ++ [61] ++ numL l.2.2.toNat = T ++ 32 :: lineT l := by unfold lineT; simp
  rw [e]
  exact q
end T82
namespace T82
open PySem DL
open TL (numL numL_ne)
/-! texts that no net has -/
def lnOfD : D → Option Ln
  | .tup [.int i, .int j, .int r] => some (i, j, r)
  | _ => none
def lnsOf : List D → Option (List Ln)
  | [] => some []
  | d :: ds => match lnOfD d, lnsOf ds with
    | some l, some ls => some (l :: ls)
    | _, _ => none
def netOf : D → Option (Int × List Ln)
  | .tup [.int p, .tup ds] => (lnsOf ds).map fun ls => (p, ls)
  | _ => none
theorem lnsOf_map : ∀ ls : List Ln, lnsOf (ls.map lnD) = some ls
  | [] => rfl
  | l :: ls => by
    show (match lnOfD (lnD l), lnsOf (ls.map lnD) with
      | some l, some ls => some (l :: ls)
      | _, _ => none) = _
    rw [lnsOf_map ls]; rfl
theorem netOf_net (p : Int) (ls : List Ln) : netOf (netD p ls) = some (p, ls) := by
  show (lnsOf (ls.map lnD)).map _ = _
  rw [lnsOf_map]; rfl
def okLB (p : Int) (l : Ln) : Bool := decide (0 ≤ l.1 ∧ l.1 < l.2.1 ∧ l.2.1 ≤ p - 1 ∧ 1 ≤ l.2.2 ∧ l.2.2 ≤ 100)
def okB (p : Int) (ls : List Ln) : Bool := decide (2 ≤ p) && (decide (p ≤ 5) && (ls.all (okLB p) && (ordB ls && joinedB p ls)))
def noNet (l : List Nat) : Bool := match netOf (foundOf l) with
  | some (p, ls) => !(okB p ls && decide (netT p ls = l))
  | none => true
theorem noNet_ok {l : List Nat} (h : noNet l = true) : ∀ p ls, NetOk p ls → netT p ls ≠ l := by
  intro p ls o e
  have hf := found_net o
  rw [e] at hf
  unfold noNet at h
  rw [hf, netOf_net] at h
  have h1 : okB p ls = true := by
    unfold okB
    have : ls.all (okLB p) = true := List.all_eq_true.mpr fun l hl => decide_eq_true (o.lines l hl)
    simp [o.p2, o.p5, this, o.ord, o.join]
  simp [h1, e] at h
theorem netT_end (p : Int) (ls : List Ln) : ∃ i c, netT p ls = i ++ [c] ∧ (c = 58 ∨ (48 ≤ c ∧ c ≤ 57)) := by
  rcases List.eq_nil_or_concat ls with rfl | ⟨ls', l, rfl⟩
  · exact ⟨numL p.toNat, 58, rfl, .inl rfl⟩
  · rw [List.concat_eq_append, netT_snoc]
    rcases List.eq_nil_or_concat (numL l.2.2.toNat) with h | ⟨i, c, h⟩
    · exact absurd h (numL_ne _)
    · rw [List.concat_eq_append] at h
      refine ⟨netT p ls' ++ 32 :: (numL l.1.toNat ++ 45 :: (numL l.2.1.toNat ++ 61 :: i)), c, ?_, .inr (numL_lt' (n := l.2.2.toNat) (by rw [h]; simp))⟩
      unfold lineT
      rw [h]; simp
theorem more_no {p : Int} {ls : List Ln} {c : Nat} (hc : c < 48) : ∀ p' ls', NetOk p' ls' → netT p' ls' ≠ netT p ls ++ [c] := by
  intro p' ls' _ e
  obtain ⟨i, d, h, hd⟩ := netT_end p' ls'
  rw [h] at e
  have := (List.append_inj' e rfl).2
  cases this
  omega
def badL : List String := ["", " ", "2", "2:", "2: ", "2:0-1=1", "2: 0-1=1 ", " 2: 0-1=1", "1: 0-1=1", "2: 1-0=1", "2: 0-1=0", "2: 0-1=101", "2: 0-1=01", "2: 0-1=+1", "2: 0-1=-1", "2: 0-1=1.0", "2: 0-1", "3: 0-1=1", "2; 0-1=1", "02: 0-1=1", "2: 0-1=1 0-1=2", "2: 00-1=1", "2: 0-1=1=1", "2: 0--1=1", "3: 0-2=1 0-1=1"]
theorem badL_no : (badL.all fun x => noNet (Str.ofString x).cps.toList && okC (Str.ofString x).cps.toList) = true := by decide +kernel
end T82
namespace T82
open PySem DL
open TL (numL numL_ne)
theorem okB_ok {p : Int} {ls : List Ln} (hl : ls.length ≤ 8) (h : okB p ls = true) : NetOk p ls := by
  unfold okB at h
  simp only [Bool.and_eq_true, decide_eq_true_eq] at h
  exact ⟨h.1, h.2.1, hl, fun l hm => by
    have := List.all_eq_true.mp h.2.2.1 l hm
    unfold okLB at this
    exact (decide_eq_true_iff (p := 0 ≤ l.1 ∧ l.1 < l.2.1 ∧ l.2.1 ≤ p - 1 ∧ 1 ≤ l.2.2 ∧ l.2.2 ≤ 100)).mp this, h.2.2.2.1, h.2.2.2.2⟩
theorem bad_str {x : String} (h : x ∈ badL) (M : List MO) : r__law_outcome [.int 0, .str (Str.ofString x)] M = .ok (.val (.tup [.str "raised", .int 10])) ⟨[], M⟩ := by
  have h1 := List.all_eq_true.mp badL_no x h
  rw [Bool.and_eq_true] at h1
  have := out_bad (parse_no h1.2 (noNet_ok h1.1) M)
  rwa [sT_of] at this
theorem bad_more {p : Int} {ls : List Ln} {c : Nat} (o : NetOk p ls) (hc : c < 48) (M : List MO) : r__law_outcome [.int 0, .str (sT (netT p ls ++ [c]))] M = .ok (.val (.tup [.str "raised", .int 10])) ⟨[], M⟩ := by
  refine out_bad (parse_no (okC_small (fun d hd => ?_) (by have := netT_len o; simp; omega)) (more_no hc) M)
  rcases List.mem_append.mp hd with hd | hd
  · exact netT_sign hd
  · rw [List.mem_singleton.mp hd]; omega
theorem bad_other {v : D} (h : isiStr v = some false) (M : List MO) : r__law_outcome [.int 0, v] M = .ok (.val (.tup [.str "raised", .int 10])) ⟨[], M⟩ := out_bad (parse_other h M)
theorem last1 (M : List MO) : r_parse_net [.str "2: 0-1=100"] M = .ok (.val (.tup [.int 2, .tup [.tup [.int 0, .int 1, .int 100]]])) ⟨[], M⟩ := by
  have o : NetOk 2 [(0, 1, 100)] := okB_ok (by simp) (by decide +kernel)
  have := parse_yes o M
  rwa [show netT 2 [(0, 1, 100)] = (Str.ofString "2: 0-1=100").cps.toList from by decide +kernel, sT_of] at this
theorem last2 (M : List MO) : r_parse_net [.str "3: 0-1=2 1-2=30"] M = .ok (.val (.tup [.int 3, .tup [.tup [.int 0, .int 1, .int 2], .tup [.int 1, .int 2, .int 30]]])) ⟨[], M⟩ := by
  have o : NetOk 3 [(0, 1, 2), (1, 2, 30)] := okB_ok (by simp) (by decide +kernel)
  have := parse_yes o M
  rwa [show netT 3 [(0, 1, 2), (1, 2, 30)] = (Str.ofString "3: 0-1=2 1-2=30").cps.toList from by decide +kernel, sT_of] at this
end T82
namespace T82
open PySem DL
open TL (numL numL_ne)
theorem ne_str (a b : Str) : oNe (.str a) (.str b) = some (.val (.bl (!decide (a = b)))) := by
  show (if (0 : Nat) ≤ 60 ∧ (0 : Nat) ≤ 60 then some (SV.val (.bl (!eqv (.str a) (.str b)))) else none) = _
  rw [if_pos ⟨by omega, by omega⟩, eqv_ss]
theorem eqvs_lines : ∀ ls : List Ln, eqvs (ls.map lnD) (ls.map lnD) = true
  | [] => eqvs_nil
  | l :: ls => by
    show eqvs (lnD l :: ls.map lnD) (lnD l :: ls.map lnD) = true
    rw [eqvs_cc, eqvs_lines ls]
    unfold lnD
    rw [eqv_tt, eqvs_cc, eqvs_cc, eqvs_cc, eqvs_nil, eqv_ii, eqv_ii, eqv_ii]
    simp
theorem eqv_net (p : Int) (ls : List Ln) : eqv (netD p ls) (netD p ls) = true := by
  unfold netD
  rw [eqv_tt, eqvs_cc, eqvs_cc, eqvs_nil, eqv_ii, eqv_tt, eqvs_lines]
  simp
theorem lvls_lines : ∀ ls : List Ln, lvls (ls.map lnD) ≤ 1
  | [] => Nat.zero_le _
  | l :: ls => by
    have := lvls_lines ls
    simp only [List.map_cons, lvls, lnD, lvl]
    omega
theorem net_good {p : Int} {ls : List Ln} (o : NetOk p ls) : goodV (netD p ls) = true := by
  rw [← found_net o]; exact foundOf_good _
theorem ne_ret (p : Int) (ls : List Ln) : oNe (.tup [.str "returned", netD p ls]) (.tup [.str "returned", netD p ls]) = some (.val (.bl false)) := by
  have h := lvls_lines ls
  have hl : lvl (.tup [.str "returned", netD p ls]) ≤ 60 := by
    unfold netD
    simp only [lvl, lvls]
    omega
  unfold oNe
  rw [if_pos ⟨hl, hl⟩, eqv_tt, eqvs_cc, eqvs_cc, eqvs_nil, eqv_ss, eqv_net]
  simp
end T82
namespace T82
open PySem DL
theorem cut_sub (T : List Nat) (lo hi : Option Int) : ∃ T', oSl lo hi (.str (sT T)) = some (.val (.str (sT T'))) ∧ T'.length ≤ T.length ∧ ∀ c ∈ T', c ∈ T := by
  refine ⟨(L2.cutS (sT T) lo hi).cps.toList, ?_, ?_, ?_⟩
  · rw [sT_of]; rfl
  · show (((sT T).cps.toList.drop _).take _).length ≤ _
    rw [List.length_take, List.length_drop, sT_tl]
    omega
  · intro c hc
    have hc : c ∈ ((sT T).cps.toList.drop _).take _ := hc
    exact List.mem_of_mem_drop (List.mem_of_mem_take hc)
end T82
namespace T82
open PySem DL
open TL (numL)
def signs : List String := ["0", "1", "2", "3", "4", " ", "-", "=", ":", ".", "", "  ", "\n", "00", " 0-1=1", "00 "]
def signL : List (List Nat) := signs.map fun x => (Str.ofString x).cps.toList
theorem signs_small : (signL.all fun l => l.all (· < 0x110000) && decide (l.length ≤ 10)) = true := by decide +kernel
theorem signs_D : (strD (Str.ofString "01234 -=:.") ++ [D.str "", D.str "  ", D.str "\n", D.str "00", D.str " 0-1=1", D.str "00 "]) = signL.map fun l => D.str (sT l) := by
  rfl
theorem eq_str (a b : Str) : oEq (.str a) (.str b) = some (.val (.bl (decide (a = b)))) := by
  show (if (0 : Nat) ≤ 60 ∧ (0 : Nat) ≤ 60 then some (SV.val (.bl (eqv (.str a) (.str b)))) else none) = _
  rw [if_pos ⟨by omega, by omega⟩, eqv_ss]
theorem ne_ra (i j : Int) : oNe (.tup [.str "raised", .int i]) (.tup [.str "raised", .int j]) = some (.val (.bl (!decide (i = j)))) := by
  show (if (1 : Nat) ≤ 60 ∧ (1 : Nat) ≤ 60 then some (SV.val (.bl (!eqv (.tup [.str "raised", .int i]) (.tup [.str "raised", .int j])))) else none) = _
  rw [if_pos ⟨by omega, by omega⟩, eqv_tt, eqvs_cc, eqvs_cc, eqvs_nil, eqv_ss, eqv_ii]
  simp
/-- one turn of the law's loop over changed texts -/
theorem one_text {ns : List Int} {p : Int} {ls : List Ln} {k : Nat} {M : List MO} {a4 a5 a6 a7 a8 a9 a10 a11 : Option SV} {QF : Fl → Sx → Prop} (hn : ns.length ≤ 63) (o : NetOk p ls) (ht : Town ns (k + 3) M)
    (q : ∀ b8 b9 b10 b11 M', Town ns k M' → QF .nx ⟨[some (.val (.scr ns)), some (.val (.obj 0)), some (.val (netD p ls)), some (.val (.str (sT (netT p ls)))), a4, a5, a6, a7, b8, b9, b10, b11, none, none, none], M'⟩) :
    Ww NoX ((dSeq (dSet 8 (dCall r__law_draw (dCons (dVar 0) (dCons (dVar 1) (dCons (d2 oAdd (dV1 oLen 3) (dC (.int 1))) dNil))))) (dSeq (dSet 9 (dCall r__law_pick (dCons (dVar 0) (dCons (dVar 1) (dCons (d2 oAdd (dN (on1 oList) (dCons (dC (.str "01234 -=:.")) dNil)) (dLst (dCons (dC (.str "")) (dCons (dC (.str "  ")) (dCons (dC (.str "\n")) (dCons (dC (.str "00")) (dCons (dC (.str " 0-1=1")) (dCons (dC (.str "00 ")) dNil)))))))) dNil))))) (dSeq (dSet 10 (d2 oAdd (d2 oAdd (dHas 3 (dSlV 3 pNo (pAt (dVar 8)))) (dVar 9)) (dHas 3 (dSlV 3 (pAt (d2 oAdd (dVar 8) (dCall r__law_draw (dCons (dVar 0) (dCons (dVar 1) (dCons (dC (.int 2)) dNil)))))) pNo)))) (dSeq (dSet 11 (dCall r__law_outcome (dCons (dC (.int 0)) (dCons (dVar 10) dNil)))) (dIfS (dTest (d2 oEq (dHas 11 (dV2 oIx 11 (dC (.int 0)))) (dC (.str "returned")))) (dIfS (tOrD (dTest (d2 oIsNot (dCall r_is_net (dCons (dHas 11 (dV2 oIx 11 (dC (.int 1)))) dNil)) (dC (.bl true)))) (dTest (d2 oNe (dCall r_format_net (dCons (dHas 11 (dV2 oIx 11 (dC (.int 1)))) dNil)) (dVar 10)))) (dRet (dC (.bl false))) dSkip) (dIfS (tOrD (dTest (dHas 11 (dV2 oNe 11 (dCall r__law_raises (dCons (dC (.str "text")) dNil))))) (dTest (dHas 10 (dV2 oEq 10 (dVar 3))))) (dRet (dC (.bl false))) dSkip)))))) ⟨[some (.val (.scr ns)), some (.val (.obj 0)), some (.val (netD p ls)), some (.val (.str (sT (netT p ls)))), a4, a5, a6, a7, a8, a9, a10, a11, none, none, none], M⟩) QF := by
  have hT := netT_len o
  have hS : ∀ c ∈ netT p ls, c < 0x110000 := fun c hc => netT_sign hc
  have el : oLen (.str (sT (netT p ls))) = some (.val (.int ((netT p ls).length : Int))) := by
    show some (SV.val (.int ((sT (netT p ls)).length : Int))) = _
    rw [sT_len]
  refine w_seq (w_set (w_call (w_cons (w_var rfl (w_cons (w_var rfl (w_cons (w_d2 (w_V1 ⟨_, rfl, _, el, w_C ⟨_, rfl, w_nil ?_⟩⟩)))))))))
  refine (draw_ok (k := k + 2) hn ht (lim' := ((netT p ls).length : Int) + 1) (by omega) (by omega)).imp ?_
  rintro x s ⟨at', rfl, _, M2, rfl, ht2⟩
  show Ww _ _ _
  dsimp only [List.set_cons_zero, List.set_cons_succ]
  have esum : oAdd (.lst (strD (Str.ofString "01234 -=:."))) (.lst [D.str "", D.str "  ", D.str "\n", D.str "00", D.str " 0-1=1", D.str "00 "]) = some (.own (signL.map fun l => D.str (sT l))) := by
    rw [← signs_D]; rfl
  refine w_seq (w_set (w_call (w_cons (w_var rfl (w_cons (w_var rfl (w_cons (w_d2 (w_dN (w_cons (w_C (w_nil ⟨.own (strD (Str.ofString "01234 -=:.")), rfl, w_lst ?_⟩))))))))))))
  refine w_cons (w_C (w_cons (w_C (w_cons (w_C (w_cons (w_C (w_cons (w_C (w_cons (w_C (w_nil ⟨by simp, _, esum, w_nil ?_⟩))))))))))))
  refine (pick_ok (k := k + 1) hn ht2 (by decide) (by decide)).imp ?_
  rintro x s ⟨sg, rfl, hsg, M3, rfl, ht3⟩
  obtain ⟨sl, hsl, rfl⟩ := List.mem_map.mp hsg
  have hsl2 := List.all_eq_true.mp signs_small sl hsl
  rw [Bool.and_eq_true, decide_eq_true_eq] at hsl2
  have hslc : ∀ c ∈ sl, c < 0x110000 := fun c hc => by simpa using List.all_eq_true.mp hsl2.1 c hc
  show Ww _ _ _
  dsimp only [List.set_cons_zero, List.set_cons_succ]
  obtain ⟨T1, e1, l1, m1⟩ := cut_sub (netT p ls) none (some at')
  refine w_seq (w_set (w_d2 (w_d2 (w_has (x_has rfl) (w_slV (w_no (w_at (w_var rfl ⟨at', rfl, _, rfl, _, e1, w_var rfl ⟨_, add_str (by omega), ?_⟩⟩))))))))
  refine w_has (x_has rfl) (w_slV (w_at (w_d2 (w_var rfl (w_call (w_cons (w_var rfl (w_cons (w_var rfl (w_cons (w_C (w_nil ?_))))))))))))
  refine (draw_ok (k := k) hn ht3 (lim' := 2) (by omega) (by omega)).imp ?_
  rintro x s ⟨by', rfl, _, M4, rfl, ht4⟩
  obtain ⟨T2, e2, l2, m2⟩ := cut_sub (netT p ls) (some (at' + by')) none
  refine ⟨_, rfl, _, rfl, w_no ⟨_, rfl, _, e2, _, add_str (by simp; omega), ?_⟩⟩
  show Ww _ _ _
  dsimp only [List.set_cons_zero, List.set_cons_succ]
  generalize hTT : T1 ++ sl ++ T2 = TT
  have hok : okC TT = true := by
    subst hTT
    refine okC_small (fun c hc => ?_) (by simp; omega)
    rcases List.mem_append.mp hc with hc | hc
    · rcases List.mem_append.mp hc with hc | hc
      · exact hS c (m1 c hc)
      · exact hslc c hc
    · exact hS c (m2 c hc)
  refine w_seq (w_set (w_call (w_cons (w_C (w_cons (w_var rfl (w_nil ?_)))))))
  rcases out_text hok M4 with ⟨p', ls', o', e', h⟩ | ⟨hno, h⟩
  · refine Ww.eq h ?_
    show Ww _ _ _
    dsimp only [List.set_cons_zero, List.set_cons_succ]
    refine w_ifS (w_test (w_d2 (w_has (x_has rfl) (w_V2 (w_C ⟨_, rfl, _, oIx_at (k := 0) rfl rfl, w_C ⟨_, eq_str _ _, _, rfl, fun _ => ?_, fun hc => ?_⟩⟩)))))
    · obtain ⟨b, eb, hb⟩ := is_net_ok (net_good o') M4
      have hb := hb.mpr ⟨p', ls', rfl, o'⟩
      subst hb
      refine w_ifS (w_tOr (w_test (w_d2 (w_call (w_cons (w_has (x_has rfl) (w_V2 (w_C ⟨_, rfl, _, oIx_at (k := 1) rfl rfl, w_nil (Ww.eq eb (w_C ⟨_, rfl, _, rfl, fun hc => (by cases hc), fun _ => ?_⟩))⟩))))))))
      refine w_test (w_d2 (w_call (w_cons (w_has (x_has rfl) (w_V2 (w_C ⟨_, rfl, _, oIx_at (k := 1) rfl rfl, w_nil (Ww.eq (format_yes o' (net_good o') _) (w_var rfl ⟨_, ne_str _ _, _, rfl, fun hc => ?_, fun _ => ?_⟩))⟩))))))
      · rw [e'] at hc; simp at hc
      · exact w_skip (q _ _ _ _ _ ht4)
    · simp at hc
  · refine Ww.eq h ?_
    show Ww _ _ _
    dsimp only [List.set_cons_zero, List.set_cons_succ]
    refine w_ifS (w_test (w_d2 (w_has (x_has rfl) (w_V2 (w_C ⟨_, rfl, _, oIx_at (k := 0) rfl rfl, w_C ⟨_, eq_str _ _, _, rfl, fun hc => ?_, fun _ => ?_⟩⟩)))))
    · exact absurd hc (by decide +kernel)
    · refine w_ifS (w_tOr (w_test (w_has (x_has rfl) (w_V2 (w_call (w_cons (w_C (w_nil (Ww.eq (rs_text _) ⟨_, rfl, _, ne_ra _ _, _, rfl, fun hc => ?_, fun _ => ?_⟩)))))))))
      · simp at hc
      · refine w_test (w_has (x_has rfl) (w_V2 (w_var rfl ⟨_, rfl, _, eq_str _ _, _, rfl, fun hc => ?_, fun _ => ?_⟩)))
        · exact absurd (sT_inj (of_decide_eq_true hc)).symm (hno p ls o)
        · exact w_skip (q _ _ _ _ _ ht4)
end T82
namespace T82
open PySem DL
open TL (numL)
def AllBad (l : List D) : Prop := ∀ d ∈ l, ∀ M, r__law_outcome [.int 0, d] M = .ok (.val (.tup [.str "raised", .int 10])) ⟨[], M⟩
theorem bad_nil : AllBad [] := fun _ h => by cases h
theorem bad_cons {d : D} {l : List D} (h : ∀ M, r__law_outcome [.int 0, d] M = .ok (.val (.tup [.str "raised", .int 10])) ⟨[], M⟩) (h2 : AllBad l) : AllBad (d :: l) := fun e he => by
  rcases List.mem_cons.mp he with rfl | he
  · exact h
  · exact h2 e he
theorem bad_app {l k : List D} (h : AllBad l) (h2 : AllBad k) : AllBad (l ++ k) := fun e he => by
  rcases List.mem_append.mp he with he | he
  · exact h e he
  · exact h2 e he
theorem good_lines (ls : List Ln) : goodV (.tup (ls.map lnD)) = true := by
  have h1 : ∀ l : Ln, top1 (lnD l) = true := fun _ => rfl
  have h2 : (ls.map lnD).all top1 = true := by rw [List.all_map, List.all_eq_true]; exact fun l _ => rfl
  match ls with
  | [] => rfl
  | [a] => rfl
  | [a, b] => rfl
  | a :: b :: c :: r => exact h2
theorem lines_no (ls : List Ln) : ¬ isNet (.tup (ls.map lnD)) := by
  rintro ⟨p, l2, e, _⟩
  unfold netD at e
  simp only [D.tup.injEq] at e
  match ls, e with
  | a :: r, e =>
    simp only [List.map_cons, List.cons.injEq] at e
    exact absurd e.1 (by unfold lnD; exact fun z => (by cases z))
theorem two_no : ¬ isNet (.tup [.int 2, .tup []]) := by
  rintro ⟨p, ls, e, o⟩
  unfold netD at e
  simp only [D.tup.injEq, List.cons.injEq, D.int.injEq, and_true] at e
  obtain ⟨rfl, e⟩ := e
  have : ls = [] := List.map_eq_nil_iff.mp e.symm
  subst this
  have := o.join
  revert this
  decide +kernel
theorem s_nl : (Str.ofString "\n") = sT [10] := by decide +kernel
theorem add_sp {a : List Nat} (h : a.length ≤ 900) : oAdd (.str (sT a)) (.str (Str.ofString " ")) = some (.val (.str (sT (a ++ [32])))) := by
  rw [s_space]; exact add_str (by simp; omega)
theorem add_nl {a : List Nat} (h : a.length ≤ 900) : oAdd (.str (sT a)) (.str (Str.ofString "\n")) = some (.val (.str (sT (a ++ [10])))) := by
  rw [s_nl]; exact add_str (by simp; omega)
theorem add_lst {a b : List D} (h : a.length + b.length ≤ 1000) : oAdd (.lst a) (.lst b) = some (.own (a ++ b)) := by
  unfold oAdd
  dsimp only
  rw [if_pos (lim_ge h)]
theorem ne_nil : oNe (.lst []) (.lst []) = some (.val (.bl false)) := by
  unfold oNe
  rw [if_pos ⟨by simp only [lvl, lvls]; omega, by simp only [lvl, lvls]; omega⟩, eqv_ll, eqvs_nil]; rfl
theorem eq_net (p : Int) (ls : List Ln) : oEq (netD p ls) (netD p ls) = some (.val (.bl true)) := by
  have h := lvls_lines ls
  have hl : lvl (netD p ls) ≤ 60 := by
    unfold netD
    simp only [lvl, lvls]
    omega
  unfold oEq
  rw [if_pos ⟨hl, hl⟩, eqv_net]
theorem tail2_ok {ns : List Int} {p : Int} {ls : List Ln} {M : List MO} {bads : List D} {a4 a5 a6 a7 a8 a9 a10 a11 : Option SV} (o : NetOk p ls) (hall : AllBad bads) :
    Ww NoX ((dSeq (dIfS (dTest (d2 oNe (dComp [13] (.nm 13) (diAny (dVar 12)) (dTest (d2 oNe (dCall r__law_outcome (dCons (dC (.int 0)) (dCons (dVar 13) dNil))) (dCall r__law_raises (dCons (dC (.str "text")) dNil)))) (dVar 13)) (dLst dNil))) (dRet (dC (.bl false))) dSkip) (dSeq (dFor (.nm 13) (diAny (dTup (dCons (dC .non) (dCons (dTup dNil) (dCons (dHas 2 (dV2 oIx 2 (dC (.int 1)))) (dCons (dVar 3) (dCons (dV1 oList 2) (dCons (dTup (dCons (dC (.int 2)) (dCons (dTup dNil) dNil))) dNil)))))))) (dIfS (dTest (d2 oNe (dCall r__law_outcome (dCons (dC (.int 1)) (dCons (dVar 13) dNil))) (dCall r__law_raises (dCons (dC (.str "net")) dNil)))) (dRet (dC (.bl false))) dSkip)) (dSeq (dSet 14 (dTup (dCons (dC (.int 3)) (dCons (dTup (dCons (dTup (dCons (dC (.int 0)) (dCons (dC (.int 1)) (dCons (dC (.int 2)) dNil)))) (dCons (dTup (dCons (dC (.int 1)) (dCons (dC (.int 2)) (dCons (dC (.int 30)) dNil)))) dNil))) dNil)))) (dRet (dAnd (d2 oEq (dCall r_parse_net (dCons (dC (.str "2: 0-1=100")) dNil)) (dTup (dCons (dC (.int 2)) (dCons (dTup (dCons (dTup (dCons (dC (.int 0)) (dCons (dC (.int 1)) (dCons (dC (.int 100)) dNil)))) dNil)) dNil)))) (d2 oEq (dCall r_parse_net (dCons (dC (.str "3: 0-1=2 1-2=30")) dNil)) (dVar 14))))))) ⟨[some (.val (.scr ns)), some (.val (.obj 0)), some (.val (netD p ls)), some (.val (.str (sT (netT p ls)))), a4, a5, a6, a7, a8, a9, a10, a11, some (.own bads), none, none], M⟩) (FinQ fun x _ => x = .val (.bl true)) := by
  have hT := netT_len o
  have i1 : oIx (netD p ls) (.int 1) = some (.val (.tup (ls.map lnD))) := oIx_at (k := 1) rfl rfl
  refine w_seq (w_ifS (w_test (w_d2 (w_comp (w_iAny (w_varO rfl ⟨bads, rfl, ?_⟩))))))
  refine comp_nm (fun _ => false) (fun d => d) (fun d hd ρ' h1 h2 h3 => ?_) (fun d hd hb => (by cases hb)) (by simp) (by simp) ?_
  · refine w_test (w_d2 (w_call (w_cons (w_C (w_cons (w_var h3 (w_nil (Ww.eq (hall d hd _) (w_call (w_cons (w_C (w_nil (Ww.eq (rs_text _) ⟨_, ne_ra _ _, _, rfl, ?_, rfl⟩)))))))))))))
    simp
  rw [show (bads.filter fun _ => false) = [] from List.filter_eq_nil_iff.mpr (fun _ _ => by simp)]
  refine w_lst (w_nil ?_)
  refine ⟨by simp, _, ne_nil, _, rfl, ?_, ?_⟩
  · intro hc; cases hc
  intro _
  with_reducible refine w_skip ?_
  show Ww _ _ _
  dsimp only [List.set_cons_zero, List.set_cons_succ, wipeD]
  refine w_seq (w_for (w_iAny (w_tup (w_cons (w_C (w_cons (w_tup (w_nil ?_))))))))
  refine ⟨by simp, ?_⟩
  refine w_cons (w_has (x_has rfl) (w_V2 (w_C ⟨_, rfl, _, i1, ?_⟩)))
  refine w_cons (w_var rfl (w_cons (w_V1 ⟨_, rfl, _, rfl, ?_⟩)))
  refine w_cons (w_tup (w_cons (w_C (w_cons (w_tup (w_nil ?_))))))
  refine ⟨by simp, w_nil ?_⟩
  refine ⟨by simp, w_nil ?_⟩
  refine ⟨by simp, _, rfl, ?_⟩
  refine w_forK (fun k s => ∃ b, s = ⟨[some (.val (.scr ns)), some (.val (.obj 0)), some (.val (netD p ls)), some (.val (.str (sT (netT p ls)))), a4, a5, a6, a7, a8, a9, a10, a11, some (.val (.lst bads)), b, none], M⟩) ⟨_, rfl⟩ (fun k d s hd hI => ?_) (fun s hI => ?_)
  · obtain ⟨b, rfl⟩ := hI
    have hm := List.mem_of_getElem? hd
    have hok : r__law_outcome [.int 1, d] M = .ok (.val (.tup [.str "raised", .int 0])) ⟨[], M⟩ := by
      simp only [frz, List.mem_cons, List.not_mem_nil, or_false] at hm
      have nn : ∀ v : D, (∀ a b, v ≠ .tup [a, b]) → ¬ isNet v := fun v h ⟨p, ls, e, _⟩ => absurd e (h _ _)
      rcases hm with rfl | rfl | rfl | rfl | rfl | rfl
      · exact out_net rfl (nn _ fun _ _ z => (by cases z)) M
      · exact out_net rfl (nn _ fun _ _ z => (by cases z)) M
      · exact out_net (good_lines ls) (lines_no ls) M
      · exact out_net rfl (nn _ fun _ _ z => (by cases z)) M
      · exact out_net rfl (nn _ fun _ _ z => (by cases z)) M
      · exact out_net rfl two_no M
    refine ⟨_, rfl, ?_⟩
    refine w_ifS (w_test (w_d2 (w_call (w_cons (w_C (w_cons (w_var rfl (w_nil (Ww.eq hok (w_call (w_cons (w_C (w_nil (Ww.eq (rs_net _) ⟨_, ne_ra _ _, _, rfl, fun hc => ?_, fun _ => w_skip ⟨_, rfl⟩⟩))))))))))))))
    simp at hc
  · obtain ⟨b, rfl⟩ := hI
    show Ww _ _ _
    refine w_seq (w_set (w_tup ?_))
    repeat (first | with_reducible apply w_cons | with_reducible apply w_C | with_reducible apply w_nil | with_reducible apply w_tup | (refine And.intro (by simp) ?_))
    show Ww _ _ _
    refine w_ret (w_and (w_d2 (w_call (w_cons (w_C (w_nil (Ww.eq (last1 _) ?_)))))))
    repeat (first | with_reducible apply w_cons | with_reducible apply w_C | with_reducible apply w_nil | with_reducible apply w_tup | (refine And.intro (by simp) ?_))
    refine ⟨.val (.bl true), eq_net 2 [(0, 1, 100)], true, rfl, fun _ => ?_, fun hc => (by cases hc)⟩
    refine w_d2 (w_call (w_cons (w_C (w_nil (Ww.eq (last2 _) (w_var rfl ⟨.val (.bl true), eq_net 3 [(0, 1, 2), (1, 2, 30)], rfl⟩))))))
theorem tail_ok {ns : List Int} {p : Int} {ls : List Ln} {M : List MO} {a4 a5 a6 a7 a8 a9 a10 a11 : Option SV} (o : NetOk p ls) :
    Ww NoX ((dSeq (dSet 12 (dLst (dCons (dC .non) (dCons (dC (.int 5)) (dCons (dC (.bl true)) (dCons (dC (.str "")) (dCons (dC (.str " ")) (dCons (dC (.str "2")) (dCons (dC (.str "2:")) (dCons (dC (.str "2: ")) (dCons (dC (.str "2:0-1=1")) (dCons (dC (.str "2: 0-1=1 ")) (dCons (dC (.str " 2: 0-1=1")) (dCons (dC (.str "1: 0-1=1")) (dCons (dC (.str "2: 1-0=1")) dNil))))))))))))))) (dSeq (dSet 12 (d2 oAdd (dVar 12) (dLst (dCons (dC (.str "2: 0-1=0")) (dCons (dC (.str "2: 0-1=101")) (dCons (dC (.str "2: 0-1=01")) (dCons (dC (.str "2: 0-1=+1")) (dCons (dC (.str "2: 0-1=-1")) (dCons (dC (.str "2: 0-1=1.0")) (dCons (dC (.str "2: 0-1")) (dCons (dC (.str "3: 0-1=1")) dNil))))))))))) (dSeq (dSet 12 (d2 oAdd (dVar 12) (dLst (dCons (dC (.str "2; 0-1=1")) (dCons (dC (.str "02: 0-1=1")) (dCons (dC (.str "2: 0-1=1 0-1=2")) (dCons (dC (.str "2: 00-1=1")) (dCons (dC (.str "2: 0-1=1=1")) (dCons (dC (.str "2: 0--1=1")) (dCons (dC (.str "3: 0-2=1 0-1=1")) dNil)))))))))) (dSeq (dSet 12 (d2 oAdd (dVar 12) (dLst (dCons (dLst (dCons (dVar 3) dNil)) (dCons (dTup (dCons (dVar 3) dNil)) (dCons dEmp (dCons (dVar 2) (dCons (d2 oAdd (dVar 3) (dC (.str " "))) (dCons (d2 oAdd (dVar 3) (dC (.str "\n"))) dNil))))))))) (dSeq (dIfS (dTest (d2 oNe (dComp [13] (.nm 13) (diAny (dVar 12)) (dTest (d2 oNe (dCall r__law_outcome (dCons (dC (.int 0)) (dCons (dVar 13) dNil))) (dCall r__law_raises (dCons (dC (.str "text")) dNil)))) (dVar 13)) (dLst dNil))) (dRet (dC (.bl false))) dSkip) (dSeq (dFor (.nm 13) (diAny (dTup (dCons (dC .non) (dCons (dTup dNil) (dCons (dHas 2 (dV2 oIx 2 (dC (.int 1)))) (dCons (dVar 3) (dCons (dV1 oList 2) (dCons (dTup (dCons (dC (.int 2)) (dCons (dTup dNil) dNil))) dNil)))))))) (dIfS (dTest (d2 oNe (dCall r__law_outcome (dCons (dC (.int 1)) (dCons (dVar 13) dNil))) (dCall r__law_raises (dCons (dC (.str "net")) dNil)))) (dRet (dC (.bl false))) dSkip)) (dSeq (dSet 14 (dTup (dCons (dC (.int 3)) (dCons (dTup (dCons (dTup (dCons (dC (.int 0)) (dCons (dC (.int 1)) (dCons (dC (.int 2)) dNil)))) (dCons (dTup (dCons (dC (.int 1)) (dCons (dC (.int 2)) (dCons (dC (.int 30)) dNil)))) dNil))) dNil)))) (dRet (dAnd (d2 oEq (dCall r_parse_net (dCons (dC (.str "2: 0-1=100")) dNil)) (dTup (dCons (dC (.int 2)) (dCons (dTup (dCons (dTup (dCons (dC (.int 0)) (dCons (dC (.int 1)) (dCons (dC (.int 100)) dNil)))) dNil)) dNil)))) (d2 oEq (dCall r_parse_net (dCons (dC (.str "3: 0-1=2 1-2=30")) dNil)) (dVar 14))))))))))) ⟨[some (.val (.scr ns)), some (.val (.obj 0)), some (.val (netD p ls)), some (.val (.str (sT (netT p ls)))), a4, a5, a6, a7, a8, a9, a10, a11, none, none, none], M⟩) (FinQ fun x _ => x = .val (.bl true)) := by
  have hT := netT_len o
  refine w_seq (w_set (w_lst ?_))
  repeat (first | with_reducible apply w_cons | with_reducible apply w_C | with_reducible apply w_nil)
  refine ⟨by simp, ?_⟩
  refine w_seq (w_set (w_d2 (w_varO rfl (w_lst ?_))))
  repeat (first | with_reducible apply w_cons | with_reducible apply w_C | with_reducible apply w_nil)
  refine ⟨by simp, _, add_lst (by simp), ?_⟩
  refine w_seq (w_set (w_d2 (w_varO rfl (w_lst ?_))))
  repeat (first | with_reducible apply w_cons | with_reducible apply w_C | with_reducible apply w_nil)
  refine ⟨by simp, _, add_lst (by simp), ?_⟩
  refine w_seq (w_set (w_d2 (w_varO rfl (w_lst (w_cons (w_lst (w_cons (w_var rfl (w_nil ⟨by simp, ?_⟩)))))))))
  refine w_cons (w_tup (w_cons (w_var rfl (w_nil ⟨by simp, ?_⟩))))
  refine w_cons (w_emp (w_cons (w_var rfl (w_cons (w_d2 (w_var rfl (w_C ⟨_, add_sp (by omega), ?_⟩)))))))
  refine w_cons (w_d2 (w_var rfl (w_C ⟨_, add_nl (by omega), ?_⟩)))
  refine w_nil ⟨by simp, _, add_lst (by simp), ?_⟩
  show Ww _ _ _
  dsimp only [List.set_cons_zero, List.set_cons_succ]
  refine tail2_ok o ?_
  refine bad_app (bad_app (bad_app ?_ ?_) ?_) ?_
  · repeat (first | exact bad_nil | refine bad_cons (fun M => bad_other rfl M) ?_ | refine bad_cons (fun M => bad_str (by decide) M) ?_)
  · repeat (first | exact bad_nil | refine bad_cons (fun M => bad_str (by decide) M) ?_)
  · repeat (first | exact bad_nil | refine bad_cons (fun M => bad_str (by decide) M) ?_)
  · exact bad_cons (fun M => bad_other rfl M) (bad_cons (fun M => bad_other rfl M) (bad_cons (fun M => bad_other rfl M) (bad_cons (fun M => bad_other rfl M) (bad_cons (fun M => bad_more o (by decide) M) (bad_cons (fun M => bad_more o (by decide) M) bad_nil)))))
end T82
namespace T82
open PySem DL
open TL (numL numL_ne)
theorem law_true : ∀ ns : List Int, ns.length ≤ 63 → ∃ s, r_law [.scr ns] [] = .ok (.val (.bl true)) s := by
  intro ns hn
  suffices h : Ww NoX (r_law [.scr ns] []) fun x s => x = .val (.bl true) by
    obtain ⟨x, s, e, rfl⟩ := h.get
    exact ⟨s, e⟩
  refine in_law ?_
  unfold db_law
  refine w_seq (w_setObj (w_call (w_cons (w_var rfl (w_nil (Ww.eq (law_town_ok ns hn _) ?_))))))
  have ht : Town ns (80 + 100) [MO.lst ((0 :: ns).map .int)] := ⟨0, ns, rfl, rfl, by omega, by omega⟩
  refine ⟨_, rfl, ?_⟩
  show Ww _ _ _
  dsimp only [List.set_cons_zero, List.set_cons_succ, List.nil_append, List.length_nil]
  refine w_seq (w_set (w_call (w_cons (w_var rfl (w_cons (w_var rfl (w_cons (w_C (w_nil ?_)))))))))
  refine (law_net_ok (k := 100) hn (by rw [Nat.add_comm]; exact ht)).imp ?_
  rintro x s ⟨p, ls, rfl, o, M1, rfl, ht1⟩
  have hp2 := o.p2; have hp5 := o.p5
  show Ww _ _ _
  dsimp only [List.set_cons_zero, List.set_cons_succ]
  have i0 : oIx (netD p ls) (.int 0) = some (.val (.int p)) := oIx_at (k := 0) rfl rfl
  have i1 : oIx (netD p ls) (.int 1) = some (.val (.tup (ls.map lnD))) := oIx_at (k := 1) rfl rfl
  rw [s_colon]
  refine w_seq (w_set (w_d2 (w_dN (w_cons (w_has (x_has rfl) (w_V2 (w_C ⟨_, rfl, _, i0, w_nil ⟨_, oStr_num (by omega) (by omega), w_C ⟨_, add_str (by have := numL3 (n := p.toNat) (by omega); simp; omega), ?_⟩⟩⟩)))))))
  show Ww _ _ _
  dsimp only [List.set_cons_zero, List.set_cons_succ]
  refine w_seq (w_for (w_iAny (w_has (x_has rfl) (w_V2 (w_C ⟨_, rfl, _, i1, _, rfl, ?_⟩)))))
  have hl0 : (numL p.toNat ++ [58]).length ≤ 4 := by have := numL3 (n := p.toNat) (by omega); simp; omega
  refine w_forK (fun k s => (netT p (ls.take k)).length ≤ 4 + 12 * k ∧ ∃ a b c, s = ⟨[some (.val (.scr ns)), some (.val (.obj 0)), some (.val (netD p ls)), some (.val (.str (sT (netT p (ls.take k))))), a, b, c, none, none, none, none, none, none, none, none], M1⟩) ⟨hl0, _, _, _, rfl⟩ (fun k d s hd hI => ?_) (fun s hI => ?_)
  · obtain ⟨hl, a, b, c, rfl⟩ := hI
    obtain ⟨l, hl2, rfl⟩ := map_at hd
    have hk : k < 8 := by
      have := (List.getElem?_eq_some_iff.mp hl2).1
      have := o.len
      omega
    have hm := List.mem_of_getElem? hl2
    have ol := o.lines l hm
    have ol5 : okL 5 l := by unfold okL at ol ⊢; omega
    have ll := lineT_len ol hp5
    have et := take_at hl2
    refine ⟨_, rfl, text_step (T := netT p (ls.take k)) (l := l) rfl rfl rfl rfl ol5 (by omega) ?_⟩
    show _ ∧ _
    rw [et, netT_snoc]
    exact ⟨by simp; omega, _, _, _, rfl⟩
  · obtain ⟨_, a, b, c, rfl⟩ := hI
    rw [List.length_map, List.take_length]
    clear hl0
    show Ww _ _ _
    refine w_seq (w_ifS (w_tOr ?_))
    refine w_test (w_d2 (w_call (w_cons (w_var rfl (w_nil (Ww.eq (format_yes o (net_good o) _) (w_var rfl ⟨_, ne_str _ _, _, rfl, ?_, ?_⟩)))))))
    · intro hc; simp at hc
    intro _
    refine w_test (w_d2 (w_call (w_cons (w_C (w_cons (w_var rfl (w_nil (Ww.eq (out_yes o _) ?_))))))))
    refine w_tup (w_cons (w_C (w_cons (w_var rfl (w_nil ⟨by simp, _, ne_ret p ls, _, rfl, fun h => (by cases h), fun _ => w_skip ?_⟩)))))
    show Ww _ _ _
    refine w_seq (w_for (w_iR1 (w_C ⟨14, rfl, by omega, ?_⟩)))
    refine w_forK (fun k s => ∃ a4 a5 a6 a7 a8 a9 a10 a11 M', Town ns (100 - 3 * k) M' ∧ s = ⟨[some (.val (.scr ns)), some (.val (.obj 0)), some (.val (netD p ls)), some (.val (.str (sT (netT p ls)))), a4, a5, a6, a7, a8, a9, a10, a11, none, none, none], M'⟩) ⟨_, _, _, _, _, _, _, _, _, ht1, rfl⟩ (fun k d s hd hI => ?_) (fun s hI => ?_)
    · obtain ⟨a4, a5, a6, a7, a8, a9, a10, a11, M', ht', rfl⟩ := hI
      obtain ⟨hk, rfl⟩ := rngD_at hd
      have hk : k < 14 := hk
      refine ⟨_, rfl, ?_⟩
      exact one_text (k := 100 - 3 * (k + 1)) hn o (ht'.less (by omega)) fun b8 b9 b10 b11 M5 h5 => ⟨_, _, _, _, _, _, _, _, _, h5, rfl⟩
    · obtain ⟨a4, a5, a6, a7, a8, a9, a10, a11, M', ht', rfl⟩ := hI
      exact tail_ok o
end T82

set_option Elab.async false
set_option linter.all false
set_option maxRecDepth 100000
set_option maxHeartbeats 0
namespace T82
open PySem PySem.Spec PyProof.Rows L2 DL
theorem fx {h : Heap} {K : PySem.W.Frag} {mg : Str → Option Value} (X : K.In h) (G : h.Ns mainGlobals mg) (c : SaysX Hd.fa Hd.fn K) : Fx K mg where
  xb := c.1
  n_ValueError := He.free_ok X G (c.2.fact 69 rfl)
  n_all := He.free_ok X G (c.2.fact 57 rfl)
  n_bool := He.free_ok X G (c.2.fact 54 rfl)
  n_int := He.free_ok X G (c.2.fact 53 rfl)
  n_isinstance := He.free_ok X G (c.2.fact 52 rfl)
  n_len := He.free_ok X G (c.2.fact 50 rfl)
  n_list := He.free_ok X G (c.2.fact 56 rfl)
  n_range := He.free_ok X G (c.2.fact 51 rfl)
  n_sorted := He.free_ok X G (c.2.fact 59 rfl)
  n_str := He.free_ok X G (c.2.fact 62 rfl)
  n_tuple := He.free_ok X G (c.2.fact 55 rfl)
  x_InvalidNet := c.2.fact 36 rfl
  x_InvalidText := c.2.fact 46 rfl
  g_InvalidDemands := He.glo_ok X G (c.2.fact 4 rfl)
  g_InvalidLine := He.glo_ok X G (c.2.fact 8 rfl)
  g_InvalidMost := He.glo_ok X G (c.2.fact 10 rfl)
  g_InvalidNames := He.glo_ok X G (c.2.fact 9 rfl)
  g_InvalidNet := He.glo_ok X G (c.2.fact 1 rfl)
  g_InvalidNumber := He.glo_ok X G (c.2.fact 5 rfl)
  g_InvalidPair := He.glo_ok X G (c.2.fact 2 rfl)
  g_InvalidRouting := He.glo_ok X G (c.2.fact 3 rfl)
  g_InvalidShare := He.glo_ok X G (c.2.fact 6 rfl)
  g_InvalidText := He.glo_ok X G (c.2.fact 11 rfl)
  g_InvalidTree := He.glo_ok X G (c.2.fact 7 rfl)
  g_NotJoined := He.glo_ok X G (c.2.fact 12 rfl)
  g_NothingToUndo := He.glo_ok X G (c.2.fact 14 rfl)
  g_RoadError := He.glo_ok X G (c.2.fact 0 rfl)
  g_TooMany := He.glo_ok X G (c.2.fact 13 rfl)
  g_is_between := He.glo_ok X G (c.2.fact 15 rfl)
  d_is_between := c.2.def_ 0 rfl
  g_is_line := He.glo_ok X G (c.2.fact 16 rfl)
  d_is_line := c.2.def_ 1 rfl
  g_is_joined := He.glo_ok X G (c.2.fact 17 rfl)
  d_is_joined := c.2.def_ 2 rfl
  g_is_net := He.glo_ok X G (c.2.fact 18 rfl)
  d_is_net := c.2.def_ 3 rfl
  g_check_net := He.glo_ok X G (c.2.fact 19 rfl)
  d_check_net := c.2.def_ 4 rfl
  g_net_text := He.glo_ok X G (c.2.fact 20 rfl)
  d_net_text := c.2.def_ 5 rfl
  g_format_net := He.glo_ok X G (c.2.fact 21 rfl)
  d_format_net := c.2.def_ 6 rfl
  g_number_of := He.glo_ok X G (c.2.fact 22 rfl)
  d_number_of := c.2.def_ 7 rfl
  g_line_of := He.glo_ok X G (c.2.fact 23 rfl)
  d_line_of := c.2.def_ 8 rfl
  g_parse_net := He.glo_ok X G (c.2.fact 24 rfl)
  d_parse_net := c.2.def_ 9 rfl
  g__law_town := He.glo_ok X G (c.2.fact 25 rfl)
  d__law_town := c.2.def_ 10 rfl
  g__law_draw := He.glo_ok X G (c.2.fact 26 rfl)
  d__law_draw := c.2.def_ 11 rfl
  g__law_pick := He.glo_ok X G (c.2.fact 27 rfl)
  d__law_pick := c.2.def_ 12 rfl
  g__law_outcome := He.glo_ok X G (c.2.fact 28 rfl)
  d__law_outcome := c.2.def_ 13 rfl
  g__law_name := He.glo_ok X G (c.2.fact 29 rfl)
  d__law_name := c.2.def_ 14 rfl
  g__law_raises := He.glo_ok X G (c.2.fact 30 rfl)
  d__law_raises := c.2.def_ 15 rfl
  g__law_pairs := He.glo_ok X G (c.2.fact 31 rfl)
  d__law_pairs := c.2.def_ 16 rfl
  g__law_net := He.glo_ok X G (c.2.fact 32 rfl)
  d__law_net := c.2.def_ 17 rfl
  g__law_call := He.glo_ok X G (c.2.fact 33 rfl)
  d__law_call := c.2.def_ 18 rfl
  g_law := He.glo_ok X G (c.2.fact 34 rfl)
  d_law := c.2.def_ 19 rfl
end T82
open PySem PySem.W PySem.Calls PyProof.Rows
theorem PySem.Challenge.cw_roadshares_k82_whole_texts_holds : PySem.Challenge.rw_roadshares_k82_whole_texts.Holds := by
  w_on; o_law
  refine HandSHeadRun.head_any (r := OpenLaw.row PySem.Challenge.rw_roadshares_k82_whole_texts) (q := view (OpenLaw.row PySem.Challenge.rw_roadshares_k82_whole_texts).prog [39]) (H := Hd.hk) (ob := Hd.ob) (M := 4000) (loose := Hd.names) (d := HandSHeadRun.topDef (OpenLaw.row PySem.Challenge.rw_roadshares_k82_whole_texts).prog 39) (kwd := []) Hd.ob_eq
    (by kernel_rfl) (fun s => by kernel_rfl) Hd.run (by kernel_rfl) (by kernel_rfl) (by kernel_rfl) (by rfl) (by first | assumption | decide +kernel) (by decide +kernel) ⟨rfl, rfl, rfl, rfl, rfl, by decide +kernel⟩ ?hw ?hc
  case hw => w_witness2
  case hc =>
    refine L2.walk_ofE (l := PySem.Challenge.rw_roadshares_k82_whole_texts) (n := 63) (k := 8) (x := "_law_script") (CX := L2.CX0) rfl (by decide) (by kernel_rfl) ⟨rfl, by decide, by decide⟩ ?F (fun _ _ _ _ z => z)
    intro w mg fa h Y G hmg0
    obtain ⟨K, KX, c⟩ := Y
    have C := T82.fx KX G c
    have hmg : mg ("law" : PySem.Str) = some (.ref fa) := by
      have e : (HandSHeadRun.topDef (OpenLaw.row PySem.Challenge.rw_roadshares_k82_whole_texts).prog 39).name = ("law" : PySem.Str) := by kernel_rfl
      rw [← e]
      exact hmg0
    have e := hmg.symm.trans C.g_law
    cases e
    obtain ⟨fd, F, D⟩ := T82.ok_law (P := PySem.Challenge.rw_roadshares_k82_whole_texts.prog) (w := w) C
    exact DL.law_fin w KX T82.law_true F (fun _ _ _ _ _ _ us hl => match us, hl with | [_], _ => rfl) D
