import PyProof.Rows.All
import Wide.All
import OpenK.AllK
import Wide.FinOn
import HandS.ForMost
import HandS.ForExc
import HandS.Slots
import HandS.Wide
import HandS.TupAny
import HandS.IsInst
import HandS.TupLe
import HandS.Style
import HandS.Deep
import HandS.CallSlots
import HandS.Text
import HandS.SortKw
import HandS.More
import KE.GoesMore
import HandS.Defaults
import HandS.HeadEnd
import PyProof.ReprRoads
import PyProof.CallFns
import HandS.Words
import HandS.WordsExc
import HandS.Comp
import HandS.Head0
import HandS.Head1
import HandS.Head2
import HandS.HeadHook1
import HandS.HeadHook2
import HandS.HeadHook3
import HandS.HeadHook4
import HandS.HeadWalk
import PySem.Challenge.RW_degreerows_k30_whole_families_judged
set_option Elab.async false
set_option linter.all false
set_option maxRecDepth 100000
set_option maxHeartbeats 0
set_option exponentiation.threshold 5000
namespace Dg
open PySem PySem.Spec PyProof.Rows L2
abbrev Sg := L2.St
/-- what is wanted of an exception, at the places -/
abbrev WK := Sg → XK

/-- data of the program, apart from where it lies -/
inductive D where
  | non | bl (b : Bool) | int (i : Int) | str (x : Str)
  | tup (xs : List D) | lst (xs : List D) | scr (xs : List D)
  | dK (kvs : List (Key × D)) | dT (kvs : List (List Key × D))
  | obj (C : Addr) (xs : List D) | ins (C : Addr) (fs : List (Str × D))
  | hnd (k : Nat) | raw (v : V)

/-- the ghost: what is published, where the shared changing things lie -/
structure G where
  B : Hp
  al : List Addr

inductive MObj where
  | lst (ds : List D) | dK (kvs : List (Key × D)) | dT (kvs : List (List Key × D)) | ins (C : Addr) (fs : List (Str × D))

mutual
inductive Rep (K : PySem.W.Frag) (g : G) : V → D → Prop
  | non : Rep K g .non .non
  | bl (b : Bool) : Rep K g (.bl b) (.bl b)
  | int (i : Int) : Rep K g (.int i) (.int i)
  | str (x : Str) : Rep K g (.str x) (.str x)
  | tup {a : Addr} {vs : List V} {ds : List D} : SqT K g.B a vs → Reps K g vs ds → Rep K g (.ref a) (.tup ds)
  | lst {a : Addr} {vs : List V} {ds : List D} : g.B a = some (.lst vs) → Reps K g vs ds → Rep K g (.ref a) (.lst ds)
  | scr {a : Addr} {vs : List V} {ds : List D} : SqL K g.B a vs → Reps K g vs ds → Rep K g (.ref a) (.scr ds)
  | dK {a : Addr} {ks : List (Key × V)} {kvs : List (Key × D)} : g.B a = some (.dK ks) → RepK K g ks kvs → Rep K g (.ref a) (.dK kvs)
  | dT {a : Addr} {ks : List (List Key × V)} {kvs : List (List Key × D)} : g.B a = some (.dT ks) → RepT K g ks kvs → Rep K g (.ref a) (.dT kvs)
  | obj {a C dx : Addr} {vs : List V} {ds : List D} : g.B a = some (SlX.SlO a C dx (vs.map some)) → g.B dx = some (.xd []) → Reps K g vs ds → Rep K g (.ref a) (.obj C ds)
  | ins {a C dx : Addr} {vs : List (Str × V)} {fs : List (Str × D)} : g.B a = some (.ins C dx vs) → RepF K g vs fs → Rep K g (.ref a) (.ins C fs)
  | hnd {a : Addr} {k : Nat} : g.al[k]? = some a → Rep K g (.ref a) (.hnd k)
  | raw (v : V) : Rep K g v (.raw v)
inductive Reps (K : PySem.W.Frag) (g : G) : List V → List D → Prop
  | nil : Reps K g [] []
  | cons {v : V} {d : D} {vs : List V} {ds : List D} : Rep K g v d → Reps K g vs ds → Reps K g (v :: vs) (d :: ds)
inductive RepK (K : PySem.W.Frag) (g : G) : List (Key × V) → List (Key × D) → Prop
  | nil : RepK K g [] []
  | cons {k : Key} {v : V} {d : D} {vs : List (Key × V)} {ds : List (Key × D)} : Rep K g v d → RepK K g vs ds → RepK K g ((k, v) :: vs) ((k, d) :: ds)
inductive RepT (K : PySem.W.Frag) (g : G) : List (List Key × V) → List (List Key × D) → Prop
  | nil : RepT K g [] []
  | cons {k : List Key} {v : V} {d : D} {vs : List (List Key × V)} {ds : List (List Key × D)} : Rep K g v d → RepT K g vs ds → RepT K g ((k, v) :: vs) ((k, d) :: ds)
inductive RepF (K : PySem.W.Frag) (g : G) : List (Str × V) → List (Str × D) → Prop
  | nil : RepF K g [] []
  | cons {k : Str} {v : V} {d : D} {vs : List (Str × V)} {ds : List (Str × D)} : Rep K g v d → RepF K g vs ds → RepF K g ((k, v) :: vs) ((k, d) :: ds)
end

theorem sqT_mono {K : PySem.W.Frag} {B B' : Hp} {a : Addr} {xs : List V} (e : Same B B') (h : SqT K B a xs) : SqT K B' a xs := by
  rcases h with (h | ⟨o, h⟩) | h
  · exact .inl (.inl (e _ _ h))
  · exact .inl (.inr ⟨o, e _ _ h⟩)
  · exact .inr h

/-- one ghost grows to another -/
structure Le (g g' : G) : Prop where
  B : Same g.B g'.B
  al : ∃ r, g'.al = g.al ++ r
theorem Le.refl (g : G) : Le g g := ⟨Same.refl _, [], by simp⟩
theorem Le.trans {g1 g2 g3 : G} (a : Le g1 g2) (b : Le g2 g3) : Le g1 g3 := ⟨a.B.trans b.B, by
  obtain ⟨r, e⟩ := a.al
  obtain ⟨q, e'⟩ := b.al
  exact ⟨r ++ q, by rw [e', e, List.append_assoc]⟩⟩
theorem Le.at {g g' : G} (l : Le g g') {k : Nat} {a : Addr} (h : g.al[k]? = some a) : g'.al[k]? = some a := by
  obtain ⟨r, e⟩ := l.al
  rw [e]
  exact (List.getElem?_append_left (List.getElem?_eq_some_iff.mp h).1).trans h
mutual
theorem Rep.mono {K : PySem.W.Frag} {g g' : G} (l : Le g g') : ∀ {v : V} {d : D}, Rep K g v d → Rep K g' v d
  | _, _, .non => .non
  | _, _, .bl b => .bl b
  | _, _, .int i => .int i
  | _, _, .str x => .str x
  | _, _, .tup h r => .tup (sqT_mono l.B h) (Reps.mono l r)
  | _, _, .lst h r => .lst (l.B _ _ h) (Reps.mono l r)
  | _, _, .scr h r => .scr (l.B.seq h) (Reps.mono l r)
  | _, _, .dK h r => .dK (l.B _ _ h) (RepK.mono l r)
  | _, _, .dT h r => .dT (l.B _ _ h) (RepT.mono l r)
  | _, _, .obj h h2 r => .obj (l.B _ _ h) (l.B _ _ h2) (Reps.mono l r)
  | _, _, .ins h r => .ins (l.B _ _ h) (RepF.mono l r)
  | _, _, .hnd h => .hnd (l.at h)
  | _, _, .raw v => .raw v
theorem Reps.mono {K : PySem.W.Frag} {g g' : G} (l : Le g g') : ∀ {v : List V} {d : List D}, Reps K g v d → Reps K g' v d
  | _, _, .nil => .nil
  | _, _, .cons h r => .cons (Rep.mono l h) (Reps.mono l r)
theorem RepK.mono {K : PySem.W.Frag} {g g' : G} (l : Le g g') : ∀ {v : List (Key × V)} {d : List (Key × D)}, RepK K g v d → RepK K g' v d
  | _, _, .nil => .nil
  | _, _, .cons h r => .cons (Rep.mono l h) (RepK.mono l r)
theorem RepT.mono {K : PySem.W.Frag} {g g' : G} (l : Le g g') : ∀ {v : List (List Key × V)} {d : List (List Key × D)}, RepT K g v d → RepT K g' v d
  | _, _, .nil => .nil
  | _, _, .cons h r => .cons (Rep.mono l h) (RepT.mono l r)
theorem RepF.mono {K : PySem.W.Frag} {g g' : G} (l : Le g g') : ∀ {v : List (Str × V)} {d : List (Str × D)}, RepF K g v d → RepF K g' v d
  | _, _, .nil => .nil
  | _, _, .cons h r => .cons (Rep.mono l h) (RepF.mono l r)
end
theorem Reps.length {K : PySem.W.Frag} {g : G} : ∀ {v : List V} {d : List D}, Reps K g v d → v.length = d.length
  | _, _, .nil => rfl
  | _, _, .cons _ r => by rw [List.length_cons, List.length_cons, r.length]
theorem Reps.at {K : PySem.W.Frag} {g : G} : ∀ {vs : List V} {ds : List D} {i : Nat} {d : D}, Reps K g vs ds → ds[i]? = some d → ∃ v, vs[i]? = some v ∧ Rep K g v d
  | _, _, _, _, .nil, e => by simp at e
  | _, _, 0, _, .cons h _, e => by
    simp at e
    subst e
    exact ⟨_, rfl, h⟩
  | _, _, i + 1, _, .cons _ r, e => by
    obtain ⟨v, e1, e2⟩ := Reps.at (i := i) r (by simpa using e)
    exact ⟨v, by simpa using e1, e2⟩
theorem Reps.atV {K : PySem.W.Frag} {g : G} : ∀ {vs : List V} {ds : List D} {i : Nat} {v : V}, Reps K g vs ds → vs[i]? = some v → ∃ d, ds[i]? = some d ∧ Rep K g v d
  | _, _, _, _, .nil, e => by simp at e
  | _, _, 0, _, .cons h _, e => by
    simp at e
    subst e
    exact ⟨_, rfl, h⟩
  | _, _, i + 1, _, .cons _ r, e => by
    obtain ⟨v, e1, e2⟩ := Reps.atV (i := i) r (by simpa using e)
    exact ⟨v, by simpa using e1, e2⟩
theorem Reps.append {K : PySem.W.Frag} {g : G} : ∀ {vs ws : List V} {ds es : List D}, Reps K g vs ds → Reps K g ws es → Reps K g (vs ++ ws) (ds ++ es)
  | _, _, _, _, .nil, q => q
  | _, _, _, _, .cons h r, q => .cons h (Reps.append r q)
theorem Reps.take {K : PySem.W.Frag} {g : G} : ∀ {vs : List V} {ds : List D} (n : Nat), Reps K g vs ds → Reps K g (vs.take n) (ds.take n)
  | _, _, 0, _ => .nil
  | _, _, _ + 1, .nil => .nil
  | _, _, n + 1, .cons h r => .cons h (Reps.take n r)
theorem Reps.drop {K : PySem.W.Frag} {g : G} : ∀ {vs : List V} {ds : List D} (n : Nat), Reps K g vs ds → Reps K g (vs.drop n) (ds.drop n)
  | _, _, 0, r => r
  | _, _, _ + 1, .nil => .nil
  | _, _, n + 1, .cons _ r => Reps.drop n r
theorem Reps.set {K : PySem.W.Frag} {g : G} {v : V} {d : D} (h : Rep K g v d) : ∀ {vs : List V} {ds : List D} (n : Nat), Reps K g vs ds → Reps K g (vs.set n v) (ds.set n d)
  | _, _, _, .nil => .nil
  | _, _, 0, .cons _ r => .cons h r
  | _, _, n + 1, .cons q r => .cons q (Reps.set h n r)
theorem Reps.reverse {K : PySem.W.Frag} {g : G} : ∀ {vs : List V} {ds : List D}, Reps K g vs ds → Reps K g vs.reverse ds.reverse
  | _, _, .nil => .nil
  | _, _, .cons h r => by
    rw [List.reverse_cons, List.reverse_cons]
    exact Reps.append (Reps.reverse r) (.cons h .nil)
theorem Reps.dropLast {K : PySem.W.Frag} {g : G} {vs : List V} {ds : List D} (r : Reps K g vs ds) : Reps K g vs.dropLast ds.dropLast := by
  rw [List.dropLast_eq_take, List.dropLast_eq_take, r.length]
  exact r.take _
theorem Reps.ints {K : PySem.W.Frag} {g : G} : ∀ {vs : List V} {ns : List Int}, Reps K g vs (ns.map D.int) → vs = ns.map V.int
  | _, [], .nil => rfl
  | _, n :: ns, .cons h r => by
    cases h
    rw [Reps.ints r]
    rfl
theorem Reps.bls {K : PySem.W.Frag} {g : G} : ∀ {vs : List V} {ns : List Bool}, Reps K g vs (ns.map D.bl) → vs = ns.map V.bl
  | _, [], .nil => rfl
  | _, n :: ns, .cons h r => by
    cases h
    rw [Reps.bls r]
    rfl

inductive Slot where
  | no | val (d : D) | live (o : MObj)
abbrev Ev := List Slot
abbrev Sto := List MObj

def MRep (K : PySem.W.Frag) (g : G) (H : Hp) (a : Addr) : MObj → Prop
  | .lst ds => ∃ vs, H a = some (.lst vs) ∧ Reps K g vs ds
  | .dK kvs => ∃ ks, H a = some (.dK ks) ∧ RepK K g ks kvs
  | .dT kvs => ∃ ks, H a = some (.dT ks) ∧ RepT K g ks kvs
  | .ins C fs => ∃ dx vs, H a = some (.ins C dx vs) ∧ RepF K g vs fs
theorem MRep.some {K : PySem.W.Frag} {g : G} {H : Hp} {a : Addr} {o : MObj} (h : MRep K g H a o) : ∃ u, H a = some u := by
  cases o with
  | lst ds => obtain ⟨_, e, _⟩ := h; exact ⟨_, e⟩
  | dK ds => obtain ⟨_, e, _⟩ := h; exact ⟨_, e⟩
  | dT ds => obtain ⟨_, e, _⟩ := h; exact ⟨_, e⟩
  | ins C fs => obtain ⟨_, _, e, _⟩ := h; exact ⟨_, e⟩
theorem MRep.mono {K : PySem.W.Frag} {g g' : G} {H H' : Hp} {a : Addr} {o : MObj} (h : MRep K g H a o) (l : Le g g') (e : ∀ u, H a = .some u → H' a = .some u) : MRep K g' H' a o := by
  cases o with
  | lst ds => obtain ⟨_, q, r⟩ := h; exact ⟨_, e _ q, r.mono l⟩
  | dK ds => obtain ⟨_, q, r⟩ := h; exact ⟨_, e _ q, r.mono l⟩
  | dT ds => obtain ⟨_, q, r⟩ := h; exact ⟨_, e _ q, r.mono l⟩
  | ins C fs => obtain ⟨_, _, q, r⟩ := h; exact ⟨_, _, e _ q, r.mono l⟩

/-- the store part of a state -/
structure SRm (K : PySem.W.Frag) (H : Hp) (S : Sto) (g : G) : Prop where
  same : Same g.B H
  len : g.al.length = S.length
  nd : g.al.Nodup
  fr : ∀ a ∈ g.al, g.B a = none
  mem : ∀ (k : Nat) a o, g.al[k]? = some a → S[k]? = some o → MRep K g H a o
/-- a state: places σ, heap H; env, store S, ghost g -/
structure SR (K : PySem.W.Frag) (σ : Sg) (H : Hp) (env : Ev) (S : Sto) (g : G) : Prop where
  m : SRm K H S g
  len : σ.length = env.length
  val : ∀ (i : Nat) d, env[i]? = some (.val d) → ∃ v, σ[i]? = some (some v) ∧ Rep K g v d
  lv : ∀ (i : Nat) o, env[i]? = some (.live o) → ∃ a, σ[i]? = some (some (.ref a)) ∧ g.B a = none ∧ a ∉ g.al ∧ MRep K g H a o
  lnd : ∀ (i j : Nat) o o' (a : Addr), i ≠ j → env[i]? = some (.live o) → env[j]? = some (.live o') → σ[i]? = some (some (.ref a)) → σ[j]? ≠ some (some (.ref a))

/-- what a step may do; L, L' the owned lists' places -/
structure Ext (L : Addr → Prop) (g : G) (H : Hp) (L' : Addr → Prop) (g' : G) (H' : Hp) : Prop where
  le : Le g g'
  kp : ∀ a o, H a = some o → a ∉ g.al → ¬ L a → H' a = some o
  dom : ∀ a, H' a = none → H a = none
  fB : ∀ a o, g'.B a = some o → g.B a = none → L a ∨ H a = none
  fA : ∀ a, a ∈ g'.al → a ∈ g.al ∨ H a = none
  fL : ∀ a, L' a → L a ∨ H a = none
abbrev NoL : Addr → Prop := fun _ => False
abbrev ExE (g : G) (H : Hp) (g' : G) (H' : Hp) : Prop := Ext NoL g H NoL g' H'
theorem Ext.refl {L : Addr → Prop} {g : G} {H : Hp} : Ext L g H L g H :=
  ⟨Le.refl _, fun _ _ h _ _ => h, fun _ h => h, fun _ _ h n => (by rw [n] at h; cases h), fun _ h => .inl h, fun _ h => .inl h⟩
theorem Ext.trans {L1 L2 L3 : Addr → Prop} {g1 g2 g3 : G} {H1 H2 H3 : Hp} (x : Ext L1 g1 H1 L2 g2 H2) (y : Ext L2 g2 H2 L3 g3 H3) : Ext L1 g1 H1 L3 g3 H3 where
  le := x.le.trans y.le
  kp := fun a o h n nl => by
    have h2 := x.kp a o h n nl
    refine y.kp a o h2 (fun q => ?_) fun q => ?_
    · rcases x.fA a q with z | z
      · exact n z
      · rw [h] at z; cases z
    · rcases x.fL a q with z | z
      · exact nl z
      · rw [h] at z; cases z
  dom := fun a h => x.dom a (y.dom a h)
  fB := fun a o h n => by
    cases q : g2.B a with
    | some u => exact x.fB a u q n
    | none =>
      rcases y.fB a o h q with z | z
      · exact x.fL a z
      · exact .inr (x.dom a z)
  fA := fun a h => by
    rcases y.fA a h with z | z
    · exact x.fA a z
    · exact .inr (x.dom a z)
  fL := fun a h => by
    rcases y.fL a h with z | z
    · exact x.fL a z
    · exact .inr (x.dom a z)
/-- an expression's step under owned lists -/
theorem Ext.lift {L : Addr → Prop} {g g' : G} {H H' : Hp} (x : ExE g H g' H') : Ext L g H L g' H' :=
  ⟨x.le, fun a o h n _ => x.kp a o h n (fun z => z), x.dom, fun a o h n => (x.fB a o h n).elim False.elim .inr, x.fA, fun _ h => .inl h⟩
theorem SR.step {K : PySem.W.Frag} {σ : Sg} {H H' : Hp} {env : Ev} {S S' : Sto} {g g' : G} (s : SR K σ H env S g) (x : ExE g H g' H') (m : SRm K H' S' g') : SR K σ H' env S' g' where
  m := m
  len := s.len
  val := fun i d e => by
    obtain ⟨v, e1, r⟩ := s.val i d e
    exact ⟨v, e1, r.mono x.le⟩
  lv := fun i o e => by
    obtain ⟨a, e1, nb, na, r⟩ := s.lv i o e
    obtain ⟨u, hu⟩ := r.some
    have some_ne : H a ≠ none := fun z => by rw [hu] at z; cases z
    refine ⟨a, e1, ?_, ?_, r.mono x.le fun u q => x.kp a u q na fun z => z⟩
    · cases q : g'.B a with
      | none => rfl
      | some u' => exact ((x.fB a u' q nb).elim False.elim some_ne).elim
    · exact fun q => (x.fA a q).elim na some_ne
  lnd := s.lnd

/-- the class of an exception and its fields -/
structure Ex where
  C : Addr
  fs : List (Str × D)
inductive Out (α : Type) where
  | ok (a : α) (S : Sto) | raise (x : Ex) (S : Sto) | bad
def Out.bind {α β : Type} (o : Out α) (k : α → Sto → Out β) : Out β := match o with
  | .ok a S => k a S
  | .raise x S => .raise x S
  | .bad => .bad
abbrev EM := Ev → Sto → Out D
abbrev TM := Ev → Sto → Out Bool
abbrev AM := Ev → Sto → Out (List D)
/-- a sequence: is it a list (not a tuple), its items -/
abbrev LM := Ev → Sto → Out (Bool × List D)

/-- an exception as it lies behind its raising -/
def RX (K : PySem.W.Frag) (E : XK) (L : Addr → Prop) (g : G) (H : Hp) (x : Ex) (S' : Sto) : Prop :=
  ∀ (dx : Option Addr) H' g', Ext L g H NoL g' H' → SRm K H' S' g' → (∃ vs, RepF K g' vs x.fs ∧ match dx with | some a => H' a = some (.xd vs) ∧ H a = none ∧ g'.B a = none ∧ a ∉ g'.al | none => vs = []) → E (.ref x.C) dx H'
def Res {α : Type} (o : Out α) (ok : α → Sto → Prop) (rs : Ex → Sto → Prop) : Prop := match o with
  | .ok a S => ok a S
  | .raise x S => rs x S
  | .bad => False
theorem Res.bind {α β : Type} {o : Out α} {k : α → Sto → Out β} {ok : β → Sto → Prop} {rs : Ex → Sto → Prop} (h : Res (o.bind k) ok rs) : Res o (fun a S => Res (k a S) ok rs) rs := by
  cases o <;> exact h
theorem Res.mono {α : Type} {o : Out α} {ok ok' : α → Sto → Prop} {rs rs' : Ex → Sto → Prop} (h : Res o ok rs) (h1 : ∀ a S, ok a S → ok' a S) (h2 : ∀ x S, rs x S → rs' x S) : Res o ok' rs' := by
  cases o with
  | ok a S => exact h1 a S h
  | raise x S => exact h2 x S h
  | bad => exact h
def tE (K : PySem.W.Frag) (E : WK) (m : EM) : TE := fun σ H Q => ∃ env S g, SR K σ H env S g ∧ Res (m env S) (fun d S' => ∀ v H' g', ExE g H g' H' → SRm K H' S' g' → Rep K g' v d → Q v H') fun x S' => RX K (E σ) NoL g H x S'
def tT (K : PySem.W.Frag) (E : WK) (m : TM) : TT := fun σ H Q => ∃ env S g, SR K σ H env S g ∧ Res (m env S) (fun b S' => ∀ H' g', ExE g H g' H' → SRm K H' S' g' → Q b H') fun x S' => RX K (E σ) NoL g H x S'
def tA (K : PySem.W.Frag) (E : WK) (m : AM) : TA := fun σ H Q => ∃ env S g, SR K σ H env S g ∧ Res (m env S) (fun ds S' => ∀ vs H' g', ExE g H g' H' → SRm K H' S' g' → Reps K g' vs ds → Q vs H') fun x S' => RX K (E σ) NoL g H x S'
/-- where a sequence is read -/
def SqAt (K : PySem.W.Frag) (H : Hp) (l : Bool) (a : Addr) (vs : List V) : Prop := if l = true then SqL K H a vs else SqT K H a vs
/-- .. and stays to be read there -/
def Stb (K : PySem.W.Frag) (g : G) (H : Hp) (l : Bool) (a : Addr) (vs : List V) : Prop := ∀ H' S' g', ExE g H g' H' → SRm K H' S' g' → SqAt K H' l a vs
def tL (K : PySem.W.Frag) (E : WK) (m : LM) : TE := fun σ H Q => ∃ env S g, SR K σ H env S g ∧ Res (m env S) (fun p S' => ∀ a vs H' g', ExE g H g' H' → SRm K H' S' g' → Stb K g' H' p.1 a vs → Reps K g' vs p.2 → Q (.ref a) H') fun x S' => RX K (E σ) NoL g H x S'
/-- a new list, not yet published -/
def tF (K : PySem.W.Frag) (E : WK) (m : AM) : TE := fun σ H Q => ∃ env S g, SR K σ H env S g ∧ Res (m env S) (fun ds S' => ∀ a vs H' g', ExE g H g' H' → SRm K H' S' g' → H' a = some (.lst vs) → H a = none → g'.B a = none → a ∉ g'.al → Reps K g' vs ds → Q (.ref a) H') fun x S' => RX K (E σ) NoL g H x S'
structure JE (X : Cx) (E : WK) (e : Expr) (m : EM) : Prop where
  pe : PE X e (tE X.K E m)
structure JT (X : Cx) (E : WK) (e : Expr) (m : TM) : Prop where
  pt : PT X e (tT X.K E m)
structure JA (X : Cx) (E : WK) (es : List Expr) (m : AM) : Prop where
  pa : PA X es (tA X.K E m)
structure JL (X : Cx) (E : WK) (e : Expr) (m : LM) : Prop where
  pe : PE X e (tL X.K E m)
structure JF (X : Cx) (E : WK) (e : Expr) (m : AM) : Prop where
  pe : PE X e (tF X.K E m)
theorem weakE {X : Cx} {e : Expr} {t t' : TE} (h : PE X e t) (i : ∀ σ H Q, t' σ H Q → t σ H Q) : PE X e t' := ⟨fun pins s σ H Q I q => h.run pins s σ H Q I (i _ _ _ q)⟩
theorem weakT {X : Cx} {e : Expr} {t t' : TT} (h : PT X e t) (i : ∀ σ H Q, t' σ H Q → t σ H Q) : PT X e t' := ⟨fun pins s σ H Q I q => h.run pins s σ H Q I (i _ _ _ q)⟩
theorem weakA {X : Cx} {e : List Expr} {t t' : TA} (h : PA X e t) (i : ∀ σ H Q, t' σ H Q → t σ H Q) : PA X e t' := ⟨fun pos pins s σ H Q I q => h.run pos pins s σ H Q I (i _ _ _ q)⟩

theorem RX.step {K : PySem.W.Frag} {E : XK} {L L1 : Addr → Prop} {g g1 : G} {H H1 : Hp} {x : Ex} {S : Sto} (h : RX K E L g H x S) (e : Ext L g H L1 g1 H1) : RX K E L1 g1 H1 x S := fun dx H' g' e' m ⟨vs, r, q⟩ => h dx H' g' (e.trans e') m ⟨vs, r, by
  cases dx with
  | none => exact q
  | some a => exact ⟨q.1, e.dom a q.2.1, q.2.2⟩⟩
/-- an expression's exception, seen from its statement -/
theorem Ext.lift0 {L : Addr → Prop} {g g' : G} {H H' : Hp} (x : ExE g H g' H') : Ext L g H NoL g' H' :=
  ⟨x.le, fun a o h n _ => x.kp a o h n (fun z => z), x.dom, fun a o h n => (x.fB a o h n).elim False.elim .inr, x.fA, fun _ h => h.elim⟩
theorem RX.lift {K : PySem.W.Frag} {E : XK} {L : Addr → Prop} {g : G} {H : Hp} {x : Ex} {S : Sto} (h : RX K E L g H x S) : RX K E NoL g H x S := fun dx H' g' e' m q => h dx H' g' e'.lift0 m q

/-! ### the mirror's words -/
def ofO {α : Type} (o : Option α) (S : Sto) : Out α := match o with | some d => .ok d S | none => .bad
theorem Res.ofO {α : Type} {o : Option α} {S : Sto} {ok : α → Sto → Prop} {rs : Ex → Sto → Prop} (h : Res (Dg.ofO o S) ok rs) : ∃ a, o = some a ∧ ok a S := by
  cases o with
  | none => exact h.elim
  | some a => exact ⟨a, rfl, h⟩
def ifO {α : Type} (c : Bool) (o : Out α) : Out α := match c with | true => o | false => .bad
theorem Res.ifO {α : Type} {c : Bool} {o : Out α} {ok : α → Sto → Prop} {rs : Ex → Sto → Prop} (h : Res (Dg.ifO c o) ok rs) : c = true ∧ Res o ok rs := by
  cases c with
  | true => exact ⟨rfl, h⟩
  | false => exact h.elim
def eBind (m : EM) (k : D → EM) : EM := fun env S => (m env S).bind fun d S' => k d env S'
def eRet (d : D) : EM := fun _ S => .ok d S
def valS : Option Slot → Option D
  | some (.val d) => some d
  | _ => none
def liveS : Option Slot → Option MObj
  | some (.live o) => some o
  | _ => none
theorem valS_eq {o : Option Slot} {d : D} (h : valS o = some d) : o = some (.val d) := by
  cases o with
  | none => cases h
  | some o => cases o <;> first | (cases h; rfl) | cases h
theorem liveS_eq {o : Option Slot} {d : MObj} (h : liveS o = some d) : o = some (.live d) := by
  cases o with
  | none => cases h
  | some o => cases o <;> first | (cases h; rfl) | cases h
def eVar (i : Nat) : EM := fun env S => ofO (valS env[i]?) S
/-- a value by two values -/
def eOp (f : D → D → Option D) (a b : EM) : EM := fun env S => (a env S).bind fun x S1 => (b env S1).bind fun y S2 => ofO (f x y) S2
def eUn (f : D → Option D) (a : EM) : EM := fun env S => (a env S).bind fun x S1 => ofO (f x) S1
def aNil : AM := fun _ S => .ok [] S
def aCons (a : EM) (r : AM) : AM := fun env S => (a env S).bind fun x S1 => (r env S1).bind fun xs S2 => .ok (x :: xs) S2
def fits (n : Nat) : Bool := decide (n ≤ sizeLine)
def eTup (r : AM) : EM := fun env S => (r env S).bind fun xs S1 => ifO (fits xs.length) (.ok (.tup xs) S1)
def fLst (r : AM) : AM := fun env S => (r env S).bind fun xs S1 => ifO (fits xs.length) (.ok xs S1)
/-- a new list, published -/
def eF (r : AM) : EM := fun env S => (r env S).bind fun xs S1 => .ok (.lst xs) S1
def lF (r : AM) : LM := fun env S => (r env S).bind fun xs S1 => .ok (true, xs) S1
/-- a value, seen as a sequence -/
def seqD : D → Option (Bool × List D)
  | .tup ds => some (false, ds)
  | .lst ds => some (true, ds)
  | .scr ds => some (true, ds)
  | _ => none
def lE (a : EM) : LM := fun env S => (a env S).bind fun x S1 => ofO (seqD x) S1
/-- an owned list, read -/
def liveL (o : Option Slot) : Option (Bool × List D) := match liveS o with
  | some (.lst ds) => some (true, ds)
  | _ => none
theorem liveL_eq {o : Option Slot} {p : Bool × List D} (h : liveL o = some p) : ∃ ds, p = (true, ds) ∧ o = some (.live (.lst ds)) := by
  unfold liveL at h
  cases q : liveS o with
  | none => rw [q] at h; cases h
  | some u =>
    rw [q] at h
    cases u with
    | lst ds => cases h; exact ⟨ds, rfl, liveS_eq q⟩
    | dK _ => cases h
    | dT _ => cases h
    | ins _ _ => cases h
def lVar (i : Nat) : LM := fun env S => ofO (liveL env[i]?) S
end Dg

namespace Dg
open PySem PySem.Spec PyProof.Rows L2
section
variable {X : Cx} {E : WK} {e a b : Expr} {ma mb : EM} {pos : Pos}

theorem xe_v {i : Nat} (h : PE X e (tVar i)) : JE X E e (eVar i) := ⟨weakE h fun σ H Q ⟨env, S, g, sr, q⟩ => by
  obtain ⟨d, hd, q⟩ := q.ofO
  obtain ⟨v, e1, r⟩ := sr.val i d (valS_eq hd)
  exact ⟨v, e1, q v H g Ext.refl sr.m r⟩⟩
theorem xe_c {v : V} {d : D} (h : PE X e (tC v)) (r : ∀ g, Rep X.K g v d) : JE X E e (eRet d) :=
  ⟨weakE h fun σ H Q ⟨env, S, g, sr, q⟩ => q v H g Ext.refl sr.m (r g)⟩

/-- what a rule over two values means for data -/
def DOp (K : PySem.W.Frag) (r : R2) (f : D → D → Option D) : Prop := ∀ (g : G) (H : Hp) (S : Sto) (Q : VK) (x y : D) (v w : V) (d : D), SRm K H S g → Rep K g v x → Rep K g w y → f x y = some d →
  (∀ u H' g', ExE g H g' H' → SRm K H' S g' → Rep K g' u d → Q u H') → r v w H Q
theorem top_of {r : R2} {f : D → D → Option D} {ta tb : TE} (ho : DOp X.K r f) (ha : ∀ σ H Q, tE X.K E ma σ H Q → ta σ H Q) (hb : ∀ σ H Q, tE X.K E mb σ H Q → tb σ H Q) : ∀ σ H Q, tE X.K E (eOp f ma mb) σ H Q → tOp r ta tb σ H Q := fun σ H Q ⟨env, S, g, sr, q⟩ =>
  ha σ H _ ⟨env, S, g, sr, q.bind.mono (fun x S1 q1 v H1 g1 e1 m1 r1 => hb σ H1 _ ⟨env, S1, g1, sr.step e1 m1, q1.bind.mono (fun y S2 q2 w H2 g2 e2 m2 r2 => by
    obtain ⟨d, hd, q3⟩ := q2.ofO
    exact ho g2 H2 S2 Q x y v w d m2 (r1.mono e2.le) r2 hd fun u H' g' e' m' r' => q3 u H' g' ((e1.trans e2).trans e') m' r') fun _ _ h => h.step e1⟩) fun _ _ h => h⟩
theorem xe_op {op : Operator} {r : R2} {f : D → D → Option D} (ho : OpR X (binaryOp op) r) (hd : DOp X.K r f) (ha : JE X E a ma) (hb : JE X E b mb) : JE X E (.BinOp a op b pos) (eOp f ma mb) :=
  ⟨weakE (pe_op ho ha.pe hb.pe) (top_of hd (fun _ _ _ h => h) fun _ _ _ h => h)⟩
theorem xe_cmp {op : CmpOp} {r : R2} {f : D → D → Option D} (ho : OpR X (compareOp op) r) (hd : DOp X.K r f) (ha : JE X E a ma) (hb : JE X E b mb) (hm : behindInMarks op b = false) : JE X E (.Compare a [op] [b] pos) (eOp f ma mb) :=
  ⟨weakE (pe_cmpR ho ha.pe hb.pe hm) (top_of hd (fun _ _ _ h => h) fun _ _ _ h => h)⟩
theorem xe_ix {r : R2} {f : D → D → Option D} (ho : IxR X r) (hd : DOp X.K r f) (ha : JE X E a ma) (hb : JE X E b mb) (hs : PlainIx b) : JE X E (.Subscript a b pos) (eOp f ma mb) :=
  ⟨weakE (pe_ix ho ha.pe hb.pe hs) (top_of hd (fun _ _ _ h => h) fun _ _ _ h => h)⟩
/-- a rule over one value -/
def DUn (K : PySem.W.Frag) (r : V → Hp → VK → Prop) (f : D → Option D) : Prop := ∀ (g : G) (H : Hp) (S : Sto) (Q : VK) (x : D) (v : V) (d : D), SRm K H S g → Rep K g v x → f x = some d →
  (∀ u H' g', ExE g H g' H' → SRm K H' S g' → Rep K g' u d → Q u H') → r v H Q
theorem tun_of {r : V → Hp → VK → Prop} {f : D → Option D} {ta : TE} (ho : DUn X.K r f) (ha : ∀ σ H Q, tE X.K E ma σ H Q → ta σ H Q) : ∀ σ H Q, tE X.K E (eUn f ma) σ H Q → tUn r ta σ H Q := fun σ H Q ⟨env, S, g, sr, q⟩ =>
  ha σ H _ ⟨env, S, g, sr, q.bind.mono (fun x S1 q1 v H1 g1 e1 m1 r1 => by
    obtain ⟨d, hd, q3⟩ := q1.ofO
    exact ho g1 H1 S1 Q x v d m1 r1 hd fun u H' g' e' m' r' => q3 u H' g' (e1.trans e') m' r') fun _ _ h => h⟩
theorem xe_un {op : UnaryOp} {r : V → Hp → VK → Prop} {f : D → Option D} (ho : UnR X (unaryOp op) r) (hd : DUn X.K r f) (ha : JE X E a ma) : JE X E (.UnaryOp op a pos) (eUn f ma) :=
  ⟨weakE (pe_un ho ha.pe) (tun_of hd fun _ _ _ h => h)⟩

/-! arguments, displays -/
theorem xa_nil : JA X E [] aNil := ⟨weakA pa_nil fun σ H Q ⟨env, S, g, sr, q⟩ => q [] H g Ext.refl sr.m .nil⟩
theorem tcons_of {mr : AM} {te : TE} {tr : TA} (h1 : ∀ σ H Q, tE X.K E ma σ H Q → te σ H Q) (h2 : ∀ σ H Q, tA X.K E mr σ H Q → tr σ H Q) : ∀ σ H Q, tA X.K E (aCons ma mr) σ H Q → tCons te tr σ H Q := fun σ H Q ⟨env, S, g, sr, q⟩ =>
  h1 σ H _ ⟨env, S, g, sr, q.bind.mono (fun x S1 q1 v H1 g1 x1 m1 r1 => h2 σ H1 _ ⟨env, S1, g1, sr.step x1 m1, q1.bind.mono (fun xs S2 q2 vs H2 g2 x2 m2 r2 =>
    q2 _ H2 g2 (x1.trans x2) m2 (.cons (r1.mono x2.le) r2)) fun _ _ h => h.step x1⟩) fun _ _ h => h⟩
theorem xa_cons {es : List Expr} {mr : AM} (ha : JE X E e ma) (hr : JA X E es mr) (hs : starEach (e :: es) X.env = (false, eval e X.env) :: starEach es X.env := by rfl) : JA X E (e :: es) (aCons ma mr) :=
  ⟨weakA (pa_cons ha.pe hr.pa hs) (tcons_of (fun _ _ _ h => h) fun _ _ _ h => h)⟩
/-- something new is laid and published -/
theorem laidB {K : PySem.W.Frag} {g : G} {H : Hp} {S : Sto} {p : Addr} {o : HO} (m : SRm K H S g) (hp : H p = none) : ExE g H ⟨upd g.B p o, g.al⟩ (upd H p o) ∧ SRm K (upd H p o) S ⟨upd g.B p o, g.al⟩ := by
  have hB : g.B p = none := m.same.free hp
  have le : Le g ⟨upd g.B p o, g.al⟩ := ⟨fun b u h => by rw [show (⟨upd g.B p o, g.al⟩ : G).B = upd g.B p o from rfl, upd_ne (ne_of_none h hB)]; exact h, [], by simp⟩
  refine ⟨⟨le, fun a u h _ _ => by rw [upd_ne (ne_of_none h hp)]; exact h, fun a h => ?_, fun a u h n => ?_, fun a h => .inl h, fun _ h => h.elim⟩, ⟨fun b u h => ?_, m.len, m.nd, fun a h => ?_, fun k a u h1 h2 => ?_⟩⟩
  · by_cases q : a = p
    · rw [q]; exact hp
    · rw [upd_ne q] at h; exact h
  · by_cases q : a = p
    · rw [q]; exact .inr hp
    · rw [show (⟨upd g.B p o, g.al⟩ : G).B = upd g.B p o from rfl, upd_ne q, n] at h; cases h
  · by_cases q : b = p
    · rw [q] at h ⊢
      rw [show (⟨upd g.B p o, g.al⟩ : G).B = upd g.B p o from rfl, upd_same] at h
      rw [upd_same]
      exact h
    · rw [show (⟨upd g.B p o, g.al⟩ : G).B = upd g.B p o from rfl, upd_ne q] at h
      rw [upd_ne q]
      exact m.same _ _ h
  · have hn : a ≠ p := fun q => by
      obtain ⟨k, e1⟩ := List.getElem?_of_mem h
      obtain ⟨o', e2⟩ : ∃ o', S[k]? = some o' := by
        have := (List.getElem?_eq_some_iff.mp e1).1
        rw [m.len] at this
        exact ⟨_, List.getElem?_eq_getElem this⟩
      obtain ⟨u, hu⟩ := (m.mem k a o' e1 e2).some
      rw [q, hp] at hu
      cases hu
    show upd g.B p o a = none
    rw [upd_ne hn]
    exact m.fr a h
  · exact (m.mem k a u h1 h2).mono le fun u' hu => by rw [upd_ne (ne_of_none hu hp)]; exact hu
/-- something new is laid and kept apart -/
theorem laidF {K : PySem.W.Frag} {g : G} {H : Hp} {S : Sto} {p : Addr} {o : HO} (m : SRm K H S g) (hp : H p = none) : ExE g H g (upd H p o) ∧ SRm K (upd H p o) S g ∧ g.B p = none ∧ p ∉ g.al := by
  have hB : g.B p = none := m.same.free hp
  refine ⟨⟨Le.refl _, fun a u h _ _ => by rw [upd_ne (ne_of_none h hp)]; exact h, fun a h => ?_, fun a u h n => (by rw [n] at h; cases h), fun a h => .inl h, fun _ h => h.elim⟩, ⟨fun b u h => ?_, m.len, m.nd, m.fr, fun k a u h1 h2 => ?_⟩, hB, fun h => ?_⟩
  · by_cases q : a = p
    · rw [q]; exact hp
    · rw [upd_ne q] at h; exact h
  · rw [upd_ne (ne_of_none h hB)]
    exact m.same _ _ h
  · exact (m.mem k a u h1 h2).mono (Le.refl _) fun u' hu => by rw [upd_ne (ne_of_none hu hp)]; exact hu
  · obtain ⟨k, e1⟩ := List.getElem?_of_mem h
    obtain ⟨o', e2⟩ : ∃ o', S[k]? = some o' := by
      have := (List.getElem?_eq_some_iff.mp e1).1
      rw [m.len] at this
      exact ⟨_, List.getElem?_eq_getElem this⟩
    obtain ⟨u, hu⟩ := (m.mem k p o' e1 e2).some
    rw [hp] at hu
    cases hu
/-- a new list is published -/
theorem pubF {K : PySem.W.Frag} {g : G} {H : Hp} {S : Sto} {l : Addr} {vs : List V} {H0 : Hp} {g0 : G} (x : ExE g0 H0 g H) (m : SRm K H S g) (hl : H l = some (.lst vs)) (h0 : H0 l = none) (hB : g.B l = none) (hA : l ∉ g.al) :
    ExE g0 H0 ⟨upd g.B l (.lst vs), g.al⟩ H ∧ SRm K H S ⟨upd g.B l (.lst vs), g.al⟩ ∧ Le g ⟨upd g.B l (.lst vs), g.al⟩ := by
  have le : Le g ⟨upd g.B l (.lst vs), g.al⟩ := ⟨fun b u h => by rw [show (⟨upd g.B l (.lst vs), g.al⟩ : G).B = upd g.B l (.lst vs) from rfl, upd_ne (ne_of_none h hB)]; exact h, [], by simp⟩
  refine ⟨⟨x.le.trans le, x.kp, x.dom, fun a u h n => ?_, x.fA, x.fL⟩, ⟨fun b u h => ?_, m.len, m.nd, fun a h => ?_, fun k a u h1 h2 => (m.mem k a u h1 h2).mono le fun _ h => h⟩, le⟩
  · by_cases q : a = l
    · rw [q]; exact .inr h0
    · rw [show (⟨upd g.B l (.lst vs), g.al⟩ : G).B = upd g.B l (.lst vs) from rfl, upd_ne q] at h
      exact x.fB a u h n
  · by_cases q : b = l
    · rw [q] at h ⊢
      rw [show (⟨upd g.B l (.lst vs), g.al⟩ : G).B = upd g.B l (.lst vs) from rfl, upd_same] at h
      rw [hl]
      exact h
    · rw [show (⟨upd g.B l (.lst vs), g.al⟩ : G).B = upd g.B l (.lst vs) from rfl, upd_ne q] at h
      exact m.same _ _ h
  · show upd g.B l (.lst vs) a = none
    rw [upd_ne (fun q => hA (by rw [← q]; exact h))]
    exact m.fr a h
theorem fits_le {n : Nat} (h : fits n = true) : n ≤ sizeLine := of_decide_eq_true h
theorem xe_tup {es : List Expr} {mr : AM} {k : Nat} (h : JA X E es mr) : JE X E (.Tuple es k pos) (eTup mr) := ⟨weakE (pe_tup h.pa) fun σ H Q ⟨env, S, g, sr, q⟩ =>
  ⟨env, S, g, sr, q.bind.mono (fun xs S1 q1 vs H1 g1 x1 m1 r1 => by
    obtain ⟨hz, q2⟩ := q1.ifO
    refine ⟨by rw [r1.length]; exact fits_le hz, fun p hp => ?_⟩
    obtain ⟨x2, m2⟩ := laidB (o := .tup vs) m1 hp
    exact q2 _ _ _ (x1.trans x2) m2 (.tup (.of upd_same) (r1.mono x2.le))) fun _ _ h => h⟩⟩
theorem xf_lst {es : List Expr} {mr : AM} (h : JA X E es mr) : JF X E (.List es pos) (fLst mr) := ⟨weakE (pe_lst h.pa) fun σ H Q ⟨env, S, g, sr, q⟩ =>
  ⟨env, S, g, sr, q.bind.mono (fun xs S1 q1 vs H1 g1 x1 m1 r1 => by
    obtain ⟨hz, q2⟩ := q1.ifO
    refine ⟨by rw [r1.length]; exact fits_le hz, fun p hp => ?_⟩
    obtain ⟨x2, m2, hb, ha⟩ := laidF (o := .lst vs) m1 hp
    exact q2 p vs _ _ (x1.trans x2) m2 upd_same (x1.dom p hp) hb ha r1) fun _ _ h => h⟩⟩
theorem xe_f {mr : AM} (h : JF X E e mr) : JE X E e (eF mr) := ⟨weakE h.pe fun σ H Q ⟨env, S, g, sr, q⟩ =>
  ⟨env, S, g, sr, q.bind.mono (fun xs S1 q1 a vs H1 g1 x1 m1 hl h0 hb ha r1 => by
    obtain ⟨x2, m2, l2⟩ := pubF x1 m1 hl h0 hb ha
    exact q1 _ _ _ x2 m2 (.lst upd_same (r1.mono l2))) fun _ _ h => h⟩⟩
/-! sequences -/
theorem Stb.now {K : PySem.W.Frag} {g : G} {H : Hp} {S : Sto} {l : Bool} {a : Addr} {vs : List V} (h : Stb K g H l a vs) (m : SRm K H S g) : SqAt K H l a vs := h H S g Ext.refl m
theorem Stb.step {K : PySem.W.Frag} {g g1 : G} {H H1 : Hp} {l : Bool} {a : Addr} {vs : List V} (h : Stb K g H l a vs) (e : ExE g H g1 H1) : Stb K g1 H1 l a vs := fun H' S' g' e' m => h H' S' g' (e.trans e') m
theorem Stb.own {K : PySem.W.Frag} {g : G} {H : Hp} {a : Addr} {vs : List V} (h : H a = some (.lst vs)) (n : a ∉ g.al) : Stb K g H true a vs := fun H' S' g' e _ => SqL.of (e.kp a _ h n fun z => z)
theorem xl_f {mr : AM} (h : JF X E e mr) : JL X E e (lF mr) := ⟨weakE h.pe fun σ H Q ⟨env, S, g, sr, q⟩ =>
  ⟨env, S, g, sr, q.bind.mono (fun xs S1 q1 a vs H1 g1 x1 m1 hl h0 hb ha r1 => q1 a vs H1 g1 x1 m1 (.own hl ha) r1) fun _ _ h => h⟩⟩
theorem seq_at {K : PySem.W.Frag} {g : G} {x : D} {v : V} {l : Bool} {ds : List D} (r : Rep K g v x) (hx : seqD x = some (l, ds)) : ∃ a vs, v = .ref a ∧ SqAt K g.B l a vs ∧ Reps K g vs ds := by
  cases r <;> simp only [seqD, Option.some.injEq, Prod.mk.injEq, reduceCtorEq] at hx
  · obtain ⟨rfl, rfl⟩ := hx
    exact ⟨_, _, rfl, by assumption, by assumption⟩
  · obtain ⟨rfl, rfl⟩ := hx
    exact ⟨_, _, rfl, SqL.of (by assumption), by assumption⟩
  · obtain ⟨rfl, rfl⟩ := hx
    exact ⟨_, _, rfl, by assumption, by assumption⟩
theorem sqAt_mono {K : PySem.W.Frag} {B B' : Hp} {l : Bool} {a : Addr} {xs : List V} (e : Same B B') (h : SqAt K B l a xs) : SqAt K B' l a xs := by
  cases l with
  | true => exact e.seq h
  | false => exact sqT_mono e h
theorem Stb.pub {K : PySem.W.Frag} {g : G} {H : Hp} {l : Bool} {a : Addr} {vs : List V} (h : SqAt K g.B l a vs) : Stb K g H l a vs := fun H' S' g' e m => sqAt_mono (e.le.B.trans m.same) h
theorem xl_e (h : JE X E e ma) : JL X E e (lE ma) := ⟨weakE h.pe fun σ H Q ⟨env, S, g, sr, q⟩ =>
  ⟨env, S, g, sr, q.bind.mono (fun x S1 q1 v H1 g1 x1 m1 r1 => by
    obtain ⟨p, hx, q2⟩ := q1.ofO
    obtain ⟨l, ds⟩ := p
    obtain ⟨a, vs, rfl, h1, h2⟩ := seq_at r1 hx
    exact q2 a vs H1 g1 x1 m1 (.pub h1) h2) fun _ _ h => h⟩⟩
theorem xl_v {i : Nat} (h : PE X e (tVar i)) : JL X E e (lVar i) := ⟨weakE h fun σ H Q ⟨env, S, g, sr, q⟩ => by
  obtain ⟨p, hd, q⟩ := q.ofO
  obtain ⟨ds, rfl, hd'⟩ := liveL_eq hd
  obtain ⟨a, e1, nb, na, vs, h1, r⟩ := sr.lv i _ hd'
  exact ⟨_, e1, q a vs H g Ext.refl sr.m (.own h1 na) r⟩⟩
end
end Dg

namespace Dg
open PySem PySem.Spec PyProof.Rows L2
section
variable {X : Cx} {E : WK} {e a b : Expr} {ma mb mc : EM} {ta' tb' : TM} {pos : Pos}

/-! ### tests -/
def blD : D → Option Bool
  | .bl b => some b
  | _ => none
def tOfE (m : EM) : TM := fun env S => (m env S).bind fun d S' => ofO (blD d) S'
theorem rep_bl {K : PySem.W.Frag} {g : G} {v : V} {d : D} {k : Bool} (r : Rep K g v d) (h : blD d = some k) : v = .bl k := by
  cases r <;> simp only [blD, Option.some.injEq, reduceCtorEq] at h
  rw [h]
theorem tB_of {t : TE} (i : ∀ σ H Q, tE X.K E ma σ H Q → t σ H Q) : ∀ σ H Q, tT X.K E (tOfE ma) σ H Q → tTest t σ H Q := fun σ H Q ⟨env, S, g, sr, q⟩ =>
  i σ H _ ⟨env, S, g, sr, q.bind.mono (fun d S1 q1 v H1 g1 x1 m1 r1 => by
    obtain ⟨k, hk, q2⟩ := q1.ofO
    exact ⟨k, rep_bl r1 hk, q2 H1 g1 x1 m1⟩) fun _ _ h => h⟩
theorem jt_e (h : JE X E e ma) (he : ∀ whole, isTrue e X.env whole = (do let v ← whole; standAt e.pos; holding [v] (truthy v)) := by intro _; rfl) : JT X E e (tOfE ma) :=
  ⟨weakT (pt_val h.pe he) (tB_of fun _ _ _ h => h)⟩
theorem jt_cmp {op : CmpOp} {r : R2} {f : D → D → Option D} (ho : OpR X (compareOp op) r) (hd : DOp X.K r f) (ha : JE X E a ma) (hb : JE X E b mb) (hm : behindInMarks op b = false) : JT X E (.Compare a [op] [b] pos) (tOfE (eOp f ma mb)) :=
  ⟨weakT (pt_cmpR ho ha.pe hb.pe hm) (tB_of (top_of hd (fun _ _ _ h => h) fun _ _ _ h => h))⟩
def mAnd (x y : TM) : TM := fun env S => (x env S).bind fun b S' => match b with | true => y env S' | false => .ok false S'
def mOr (x y : TM) : TM := fun env S => (x env S).bind fun b S' => match b with | true => .ok true S' | false => y env S'
def mNot (x : TM) : TM := fun env S => (x env S).bind fun b S' => .ok (!b) S'
structure JW (X : Cx) (E : WK) (e : Expr) (m : TM) : Prop where
  pw : PW X e (tT X.K E m)
theorem jw_t (h : JW X E e ta') : JT X E e ta' := ⟨h.pw.pt⟩
theorem weakW {X : Cx} {e : Expr} {t t' : TT} (h : PW X e t) (i : ∀ σ H Q, t' σ H Q → t σ H Q) : PW X e t' := ⟨fun wh pins s σ H Q I q => h.run wh pins s σ H Q I (i _ _ _ q)⟩
theorem jw_and1 (ha : JT X E a ta') : JW X E (.BoolOp .And [a] pos) ta' := ⟨pw_and1 ha.pt⟩
theorem jw_or1 (ha : JT X E a ta') : JW X E (.BoolOp .Or [a] pos) ta' := ⟨pw_or1 ha.pt⟩
theorem jw_and {rest : List Expr} (ha : JT X E a ta') (hb : JW X E (.BoolOp .And (b :: rest) pos) tb') : JW X E (.BoolOp .And (a :: b :: rest) pos) (mAnd ta' tb') :=
  ⟨weakW (pw_and ha.pt hb.pw) fun σ H Q ⟨env, S, g, sr, q⟩ => ⟨env, S, g, sr, q.bind.mono (fun k S1 q1 H1 g1 x1 m1 => by
    cases k with
    | true => exact iteT ⟨env, S1, g1, sr.step x1 m1, Res.mono q1 (fun _ _ q2 H2 g2 x2 m2 => q2 H2 g2 (x1.trans x2) m2) fun _ _ h => h.step x1⟩
    | false => exact iteF (q1 H1 g1 x1 m1)) fun _ _ h => h⟩⟩
theorem jw_or {rest : List Expr} (ha : JT X E a ta') (hb : JW X E (.BoolOp .Or (b :: rest) pos) tb') : JW X E (.BoolOp .Or (a :: b :: rest) pos) (mOr ta' tb') :=
  ⟨weakW (pw_or ha.pt hb.pw) fun σ H Q ⟨env, S, g, sr, q⟩ => ⟨env, S, g, sr, q.bind.mono (fun k S1 q1 H1 g1 x1 m1 => by
    cases k with
    | false => exact iteF ⟨env, S1, g1, sr.step x1 m1, Res.mono q1 (fun _ _ q2 H2 g2 x2 m2 => q2 H2 g2 (x1.trans x2) m2) fun _ _ h => h.step x1⟩
    | true => exact iteT (q1 H1 g1 x1 m1)) fun _ _ h => h⟩⟩
theorem jt_not (ha : JT X E a ta') : JT X E (.UnaryOp .Not a pos) (mNot ta') :=
  ⟨weakT (pt_not ha.pt) fun σ H Q ⟨env, S, g, sr, q⟩ => ⟨env, S, g, sr, q.bind.mono (fun k S1 q1 H1 g1 x1 m1 => q1 H1 g1 x1 m1) fun _ _ h => h⟩⟩
/-! .. as values -/
def eAnd (x y : EM) : EM := fun env S => (x env S).bind fun d S' => match blD d with | some true => y env S' | some false => .ok (.bl false) S' | none => .bad
def eOr (x y : EM) : EM := fun env S => (x env S).bind fun d S' => match blD d with | some true => .ok (.bl true) S' | some false => y env S' | none => .bad
def notD : D → Option D
  | .bl b => some (.bl !b)
  | _ => none
def eIf (t : TM) (x y : EM) : EM := fun env S => (t env S).bind fun b S' => match b with | true => x env S' | false => y env S'
theorem je_one {op} (ha : JE X E a ma) : JE X E (.BoolOp op [a] pos) ma := ⟨pe_one ha.pe⟩
theorem je_and {rest : List Expr} (ha : JE X E a ma) (hb : JE X E (.BoolOp .And (b :: rest) pos) mb) : JE X E (.BoolOp .And (a :: b :: rest) pos) (eAnd ma mb) :=
  ⟨weakE (pe_and ha.pe hb.pe) fun σ H Q ⟨env, S, g, sr, q⟩ => ⟨env, S, g, sr, q.bind.mono (fun d S1 q1 v H1 g1 x1 m1 r1 => by
    cases hk : blD d with
    | none => rw [hk] at q1; exact q1.elim
    | some k =>
      rw [hk] at q1
      refine ⟨k, rep_bl r1 hk, ?_⟩
      cases k with
      | true => exact iteT ⟨env, S1, g1, sr.step x1 m1, Res.mono q1 (fun _ _ q2 v2 H2 g2 x2 m2 => q2 v2 H2 g2 (x1.trans x2) m2) fun _ _ h => h.step x1⟩
      | false => exact iteF (q1 _ H1 g1 x1 m1 (.bl false))) fun _ _ h => h⟩⟩
theorem je_or {rest : List Expr} (ha : JE X E a ma) (hb : JE X E (.BoolOp .Or (b :: rest) pos) mb) : JE X E (.BoolOp .Or (a :: b :: rest) pos) (eOr ma mb) :=
  ⟨weakE (pe_or ha.pe hb.pe) fun σ H Q ⟨env, S, g, sr, q⟩ => ⟨env, S, g, sr, q.bind.mono (fun d S1 q1 v H1 g1 x1 m1 r1 => by
    cases hk : blD d with
    | none => rw [hk] at q1; exact q1.elim
    | some k =>
      rw [hk] at q1
      refine ⟨k, rep_bl r1 hk, ?_⟩
      cases k with
      | false => exact iteF ⟨env, S1, g1, sr.step x1 m1, Res.mono q1 (fun _ _ q2 v2 H2 g2 x2 m2 => q2 v2 H2 g2 (x1.trans x2) m2) fun _ _ h => h.step x1⟩
      | true => exact iteT (q1 _ H1 g1 x1 m1 (.bl true))) fun _ _ h => h⟩⟩
theorem je_not (ha : JE X E a ma) : JE X E (.UnaryOp .Not a pos) (eUn notD ma) :=
  ⟨weakE (pe_not ha.pe) fun σ H Q ⟨env, S, g, sr, q⟩ => ⟨env, S, g, sr, q.bind.mono (fun d S1 q1 v H1 g1 x1 m1 r1 => by
    obtain ⟨u, hu, q2⟩ := q1.ofO
    cases r1 <;> simp only [notD, Option.some.injEq, reduceCtorEq] at hu
    subst hu
    exact ⟨_, rfl, q2 _ H1 g1 x1 m1 (.bl _)⟩) fun _ _ h => h⟩⟩
theorem je_if {c : Expr} (hc : JT X E c ta') (ha : JE X E a ma) (hb : JE X E b mb) : JE X E (.IfExp c a b pos) (eIf ta' ma mb) :=
  ⟨weakE (pe_ifExp hc.pt ha.pe hb.pe) fun σ H Q ⟨env, S, g, sr, q⟩ => ⟨env, S, g, sr, q.bind.mono (fun k S1 q1 H1 g1 x1 m1 => by
    cases k with
    | true => exact iteT ⟨env, S1, g1, sr.step x1 m1, Res.mono q1 (fun _ _ q2 v2 H2 g2 x2 m2 => q2 v2 H2 g2 (x1.trans x2) m2) fun _ _ h => h.step x1⟩
    | false => exact iteF ⟨env, S1, g1, sr.step x1 m1, Res.mono q1 (fun _ _ q2 v2 H2 g2 x2 m2 => q2 v2 H2 g2 (x1.trans x2) m2) fun _ _ h => h.step x1⟩) fun _ _ h => h⟩⟩
/-- a < b < c -/
def eChain (f f' : D → D → Option D) (x y z : EM) : EM := fun env S => (x env S).bind fun a S1 => (y env S1).bind fun b S2 => match f a b with
  | some (.bl true) => (z env S2).bind fun c S3 => ofO (f' b c) S3
  | some (.bl false) => .ok (.bl false) S2
  | _ => .bad
/-- the two rules give truths and change nothing -/
def DPure (K : PySem.W.Frag) (r : R2) (f : D → D → Option D) : Prop := ∀ (g : G) (H : Hp) (S : Sto) (Q : VK) (x y : D) (v w : V) (k : Bool), SRm K H S g → Rep K g v x → Rep K g w y → f x y = some (.bl k) → Q (.bl k) H → r v w H Q
theorem chain_of {r r' : R2} {f f' : D → D → Option D} (hd : DPure X.K r f) (hd' : DOp X.K r' f') : ∀ σ H Q, tE X.K E (eChain f f' ma mb mc) σ H Q → tChain r r' (tE X.K E ma) (tE X.K E mb) (tE X.K E mc) σ H Q :=
  fun σ H Q ⟨env, S, g, sr, q⟩ => ⟨env, S, g, sr, q.bind.mono (fun x S1 q1 v H1 g1 x1 m1 r1 => ⟨env, S1, g1, sr.step x1 m1, q1.bind.mono (fun y S2 q2 w H2 g2 x2 m2 r2 => by
    have sr2 := (sr.step x1 m1).step x2 m2
    cases hf : f x y with
    | none => rw [hf] at q2; exact q2.elim
    | some d =>
      rw [hf] at q2
      cases d with
      | bl k =>
        refine hd g2 H2 S2 _ x y v w k m2 (r1.mono x2.le) r2 hf ⟨k, rfl, ?_⟩
        cases k with
        | true =>
          refine iteT ⟨env, S2, g2, sr2, q2.bind.mono (fun z S3 q3 u H3 g3 x3 m3 r3 => ?_) fun _ _ h => (h.step x1).step x2⟩
          obtain ⟨d, hd3, q4⟩ := q3.ofO
          exact hd' g3 H3 S3 Q y z w u d m3 (r2.mono x3.le) r3 hd3 fun u' H' g' e' m' r' => q4 u' H' g' (((x1.trans x2).trans x3).trans e') m' r'
        | false => exact iteF (q2 _ H2 g2 (x1.trans x2) m2 (.bl false))
      | _ => exact q2.elim) fun _ _ h => h.step x1⟩) fun _ _ h => h⟩
theorem je_chain {op op' : CmpOp} {r r' : R2} {f f' : D → D → Option D} {c : Expr} (ho : OpR X (compareOp op) r) (ho' : OpR X (compareOp op') r') (hd : DPure X.K r f) (hd' : DOp X.K r' f') (ha : JE X E a ma) (hb : JE X E b mb) (hc : JE X E c mc)
    (hm : lastMarks [op, op'] [b, c] = false := by with_unfolding_all rfl) : JE X E (.Compare a [op, op'] [b, c] pos) (eChain f f' ma mb mc) :=
  ⟨weakE (pe_chain ho ho' ha.pe hb.pe hc.pe hm) (chain_of hd hd')⟩
theorem jt_chain {op op' : CmpOp} {r r' : R2} {f f' : D → D → Option D} {c : Expr} (ho : OpR X (compareOp op) r) (ho' : OpR X (compareOp op') r') (hd : DPure X.K r f) (hd' : DOp X.K r' f') (ha : JE X E a ma) (hb : JE X E b mb) (hc : JE X E c mc)
    (hm : lastMarks [op, op'] [b, c] = false := by with_unfolding_all rfl) : JT X E (.Compare a [op, op'] [b, c] pos) (tOfE (eChain f f' ma mb mc)) :=
  ⟨weakT (pt_chain ho ho' ha.pe hb.pe hc.pe hm) (tB_of (chain_of hd hd'))⟩
end
end Dg

namespace Dg
open PySem PySem.Spec PyProof.Rows L2
/-! ### the operators over data -/
def addD : D → D → Option D
  | .int i, .int j => some (.int (i + j))
  | .str x, .str y => if fits (x.length + y.length) = true then some (.str (x ++ y)) else none
  | .lst xs, .lst ys => if fits (xs.length + ys.length) = true then some (.lst (xs ++ ys)) else none
  | .tup xs, .tup ys => if fits (xs.length + ys.length) = true then some (.tup (xs ++ ys)) else none
  | _, _ => none
def intI (f : Int → Int → Int) : D → D → Option D
  | .int i, .int j => some (.int (f i j))
  | _, _ => none
def intB (f : Int → Int → Bool) : D → D → Option D
  | .int i, .int j => some (.bl (f i j))
  | _, _ => none
def subD : D → D → Option D := intI fun i j => i - j
def ltD : D → D → Option D := intB fun i j => decide (i < j)
def leD : D → D → Option D := intB fun i j => decide (i ≤ j)
def gtD : D → D → Option D := intB fun i j => decide (j < i)
def geD : D → D → Option D := intB fun i j => decide (j ≤ i)
def small64 (i : Int) : Bool := decide (-(2 ^ 64) < i) && decide (i < 2 ^ 64)
def wideB (i : Int) : Bool := decide (i.natAbs < 2 ^ 4000)
def mulOk (i j : Int) : Bool := small64 i || small64 j || (wideB i && wideB j)
def mulD : D → D → Option D
  | .int i, .int j => if mulOk i j = true then some (.int (i * j)) else none
  | .lst xs, .int k => if (decide (-(2 ^ 63) ≤ k) && decide (k < 2 ^ 63) && fits (xs.length * k.toNat)) = true then some (.lst (List.replicate k.toNat xs).flatten) else none
  | _, _ => none
def divD : D → D → Option D
  | .int i, .int j => if (decide (0 < j) && decide (j < 1073741824)) = true then some (.int (i / j)) else none
  | _, _ => none
def modD : D → D → Option D
  | .int i, .int j => if decide (0 < j) = true then some (.int (i % j)) else none
  | _, _ => none
def powD : D → D → Option D
  | .int i, .int j => if (decide (0 ≤ j) && decide (j ≤ 1000000) && decide (i.natAbs < 2 ^ 64)) = true then some (.int (i ^ j.toNat)) else none
  | _, _ => none
def negD : D → Option D
  | .int i => some (.int (-i))
  | _ => none
section
variable {X : Cx}
theorem dI {f : Int → Int → Int} : DOp X.K (rI0 fun i j => .int (f i j)) (intI f) := fun g H S Q x y v w d m rx ry h q => by
  cases rx <;> cases ry <;> simp only [intI, Option.some.injEq, reduceCtorEq] at h
  subst h
  exact ⟨_, _, rfl, rfl, q _ H g Ext.refl m (.int _)⟩
theorem dB {f : Int → Int → Bool} : DOp X.K (rI0 fun i j => .bl (f i j)) (intB f) := fun g H S Q x y v w d m rx ry h q => by
  cases rx <;> cases ry <;> simp only [intB, Option.some.injEq, reduceCtorEq] at h
  subst h
  exact ⟨_, _, rfl, rfl, q _ H g Ext.refl m (.bl _)⟩
theorem pB {f : Int → Int → Bool} : DPure X.K (rI0 fun i j => .bl (f i j)) (intB f) := fun g H S Q x y v w d m rx ry h q => by
  cases rx <;> cases ry <;> simp only [intB, Option.some.injEq, reduceCtorEq] at h
  injection h with h
  subst h
  exact ⟨_, _, rfl, rfl, q⟩
def rAddA (K : PySem.W.Frag) : R2 := fun x y H Q => (rI0 (fun i j => .int (i + j)) x y H Q ∨ ∃ i j, x = .str i ∧ y = .str j ∧ i.length + j.length ≤ sizeLine ∧ Q (.str (i ++ j)) H) ∨ (rCat x y H Q ∨ rCatA K x y H Q)
theorem op_addA : OpR X (binaryOp .Add) (rAddA X.K) := (op_add.or op_add_str).or (op_cat.or op_catA)
theorem dAdd : DOp X.K (rAddA X.K) addD := fun g H S Q x y v w d m rx ry h q => by
  cases rx <;> cases ry <;> simp only [addD, Option.some.injEq, reduceCtorEq] at h
  · subst h
    exact .inl (.inl ⟨_, _, rfl, rfl, q _ H g Ext.refl m (.int _)⟩)
  · split at h
    · rename_i hz
      cases h
      exact .inl (.inr ⟨_, _, rfl, rfl, fits_le hz, q _ H g Ext.refl m (.str _)⟩)
    · cases h
  · rename_i a vs ds h1 r1 b ws es h2 r2
    split at h
    · rename_i hz
      cases h
      have hz2 := fits_le hz
      refine .inr (.inr ⟨_, _, _, _, rfl, rfl, sqT_mono m.same h1, sqT_mono m.same h2, by rw [r1.length, r2.length]; exact hz2, fun e => ?_, fun e1 e2 => ?_, fun e1 e2 p hp => ?_⟩)
      · subst e
        cases r1
        exact q _ H g Ext.refl m (.tup h2 r2)
      · subst e2
        cases r2
        rw [List.append_nil] at q
        exact q _ H g Ext.refl m (.tup h1 r1)
      · obtain ⟨x2, m2⟩ := laidB (o := .tup (vs ++ ws)) m hp
        exact q _ _ _ x2 m2 (.tup (.of upd_same) ((r1.mono x2.le).append (r2.mono x2.le)))
    · cases h
  · rename_i a vs ds h1 r1 b ws es h2 r2
    split at h
    · rename_i hz
      cases h
      have hz2 := fits_le hz
      refine .inr (.inl ⟨_, _, _, _, rfl, rfl, m.same _ _ h1, m.same _ _ h2, by rw [r1.length, r2.length]; exact hz2, fun p hp => ?_⟩)
      obtain ⟨x2, m2⟩ := laidB (o := .lst (vs ++ ws)) m hp
      exact q _ _ _ x2 m2 (.lst upd_same ((r1.mono x2.le).append (r2.mono x2.le)))
    · cases h
theorem mulOk_of {i j : Int} (h : mulOk i j = true) : CMul i j ∨ CMulW i j := by
  unfold mulOk small64 wideB at h
  simp only [Bool.or_eq_true, Bool.and_eq_true, decide_eq_true_eq] at h
  rcases h with (h | h) | h
  · exact .inl (.inl h)
  · exact .inl (.inr h)
  · exact .inr (wide_mul h.1 h.2 (by decide) (by decide) (by decide))
def rMulA : R2 := fun x y H Q => (rI CMul (fun i j => .int (i * j)) x y H Q ∨ rI CMulW (fun i j => .int (i * j)) x y H Q) ∨ rRep x y H Q
theorem op_mulA : OpR X (binaryOp .Mult) rMulA := (op_mul.or op_mulW).or op_rep
theorem Reps.rep {K : PySem.W.Frag} {g : G} {vs : List V} {ds : List D} (r : Reps K g vs ds) : ∀ k : Nat, Reps K g (List.replicate k vs).flatten (List.replicate k ds).flatten
  | 0 => .nil
  | k + 1 => by
    rw [List.replicate_succ, List.replicate_succ, List.flatten_cons, List.flatten_cons]
    exact r.append (Reps.rep r k)
theorem dMul : DOp X.K rMulA mulD := fun g H S Q x y v w d m rx ry h q => by
  cases rx <;> cases ry <;> simp only [mulD, reduceCtorEq] at h
  · split at h
    · rename_i hz
      cases h
      rcases mulOk_of hz with hz | hz
      · exact .inl (.inl ⟨_, _, rfl, rfl, hz, q _ H g Ext.refl m (.int _)⟩)
      · exact .inl (.inr ⟨_, _, rfl, rfl, hz, q _ H g Ext.refl m (.int _)⟩)
    · cases h
  · rename_i a vs ds h1 r1 k
    split at h
    · rename_i hz
      cases h
      simp only [Bool.and_eq_true, decide_eq_true_eq] at hz
      refine .inr ⟨_, _, _, rfl, rfl, m.same _ _ h1, hz.1.1, hz.1.2, by rw [r1.length]; exact fits_le hz.2, fun p hp => ?_⟩
      obtain ⟨x2, m2⟩ := laidB (o := .lst (List.replicate k.toNat vs).flatten) m hp
      exact q _ _ _ x2 m2 (.lst upd_same ((r1.mono x2.le).rep _))
    · cases h
theorem dDiv : DOp X.K (rI CDiv fun i j => .int (i / j)) divD := fun g H S Q x y v w d m rx ry h q => by
  cases rx <;> cases ry <;> simp only [divD, reduceCtorEq] at h
  split at h
  · rename_i hz
    cases h
    simp only [Bool.and_eq_true, decide_eq_true_eq] at hz
    exact ⟨_, _, rfl, rfl, hz, q _ H g Ext.refl m (.int _)⟩
  · cases h
theorem dMod : DOp X.K (rI (fun _ j => 0 < j) fun i j => .int (i % j)) modD := fun g H S Q x y v w d m rx ry h q => by
  cases rx <;> cases ry <;> simp only [modD, reduceCtorEq] at h
  split at h
  · rename_i hz
    cases h
    simp only [decide_eq_true_eq] at hz
    exact ⟨_, _, rfl, rfl, hz, q _ H g Ext.refl m (.int _)⟩
  · cases h
theorem dPow : DOp X.K (rI CPow fun i j => .int (i ^ j.toNat)) powD := fun g H S Q x y v w d m rx ry h q => by
  cases rx <;> cases ry <;> simp only [powD, reduceCtorEq] at h
  split at h
  · rename_i hz
    cases h
    simp only [Bool.and_eq_true, decide_eq_true_eq] at hz
    exact ⟨_, _, rfl, rfl, ⟨hz.1.1, hz.1.2, hz.2⟩, q _ H g Ext.refl m (.int _)⟩
  · cases h
theorem dNeg : DUn X.K (rU fun i => .int (-i)) negD := fun g H S Q x v d m rx h q => by
  cases rx <;> simp only [negD, Option.some.injEq, reduceCtorEq] at h
  subst h
  exact ⟨_, rfl, q _ H g Ext.refl m (.int _)⟩
end
/-! ### plain data: what == reads -/
mutual
def toPy : D → Option PyData
  | .non => some .none
  | .bl b => some (.bool b)
  | .int i => some (.int i)
  | .str x => some (.str x)
  | .tup xs => (toPys xs).map .tuple
  | .lst xs => (toPys xs).map .list
  | .scr xs => (toPys xs).map .list
  | _ => none
def toPys : List D → Option (List PyData)
  | [] => some []
  | d :: ds => match toPy d, toPys ds with
    | some p, some ps => some (p :: ps)
    | _, _ => none
end
mutual
theorem rep_dp {K : PySem.W.Frag} {g : G} {H : Hp} (e : Same g.B H) : ∀ {v : V} {d : D} {p : PyData}, Rep K g v d → toPy d = some p → Dp K H v p
  | _, _, p, .non, h => by simp only [toPy, Option.some.injEq] at h; subst h; exact .non
  | _, _, p, .bl b, h => by simp only [toPy, Option.some.injEq] at h; subst h; exact .bl b
  | _, _, p, .int i, h => by simp only [toPy, Option.some.injEq] at h; subst h; exact .int i
  | _, _, p, .str x, h => by simp only [toPy, Option.some.injEq] at h; subst h; exact .str x
  | _, _, p, .tup hs r, h => by
    simp only [toPy, Option.map_eq_some_iff] at h
    obtain ⟨ps, h1, rfl⟩ := h
    exact .tup (sqT_mono e hs) (reps_dp e r h1)
  | _, _, p, .lst hs r, h => by
    simp only [toPy, Option.map_eq_some_iff] at h
    obtain ⟨ps, h1, rfl⟩ := h
    exact .lst (SqL.of (e _ _ hs)) (reps_dp e r h1)
  | _, _, p, .scr hs r, h => by
    simp only [toPy, Option.map_eq_some_iff] at h
    obtain ⟨ps, h1, rfl⟩ := h
    exact .lst (e.seq hs) (reps_dp e r h1)
  | _, _, p, .dK _ _, h => by simp only [toPy, reduceCtorEq] at h
  | _, _, p, .dT _ _, h => by simp only [toPy, reduceCtorEq] at h
  | _, _, p, .obj _ _ _, h => by simp only [toPy, reduceCtorEq] at h
  | _, _, p, .ins _ _, h => by simp only [toPy, reduceCtorEq] at h
  | _, _, p, .hnd _, h => by simp only [toPy, reduceCtorEq] at h
  | _, _, p, .raw _, h => by simp only [toPy, reduceCtorEq] at h
theorem reps_dp {K : PySem.W.Frag} {g : G} {H : Hp} (e : Same g.B H) : ∀ {v : List V} {d : List D} {p : List PyData}, Reps K g v d → toPys d = some p → DpAll K H v p
  | _, _, p, .nil, h => by simp only [toPys, Option.some.injEq] at h; subst h; exact .nil
  | _, _, p, .cons (d := d) (ds := ds) r rs, h => by
    simp only [toPys] at h
    cases h1 : toPy d with
    | none => rw [h1] at h; simp at h
    | some p1 =>
      cases h2 : toPys ds with
      | none => rw [h1, h2] at h; simp at h
      | some p2 =>
        rw [h1, h2] at h
        simp only [Option.some.injEq] at h
        subst h
        exact .cons (rep_dp e r h1) (reps_dp e rs h2)
end
def py2 {α : Type} (x y : D) (f : PyData → PyData → α) : Option α := match toPy x, toPy y with
  | some p, some q => if (SeqAt.shaped p && SeqAt.shaped q) = true then some (f p q) else none
  | _, _ => none
theorem py2_eq {α : Type} {x y : D} {f : PyData → PyData → α} {u : α} (h : py2 x y f = some u) : ∃ p q, toPy x = some p ∧ toPy y = some q ∧ SeqAt.shaped p = true ∧ SeqAt.shaped q = true ∧ u = f p q := by
  unfold py2 at h
  split at h
  · rename_i p q h1 h2
    split at h
    · rename_i hz
      simp only [Bool.and_eq_true] at hz
      cases h
      exact ⟨p, q, h1, h2, hz.1, hz.2, rfl⟩
    · cases h
  · cases h
def eqD (x y : D) : Option D := py2 x y fun p q => .bl (PyData.eqv p q)
def neD (x y : D) : Option D := py2 x y fun p q => .bl (!PyData.eqv p q)
section
variable {X : Cx}
theorem dEq : DOp X.K (rEqD X.K) eqD := fun g H S Q x y v w d m rx ry h q => by
  obtain ⟨p, p', h1, h2, h3, h4, rfl⟩ := py2_eq h
  exact ⟨p, p', rep_dp m.same rx h1, rep_dp m.same ry h2, h3, h4, q _ H g Ext.refl m (.bl _)⟩
theorem dNe : DOp X.K (rNeD X.K) neD := fun g H S Q x y v w d m rx ry h q => by
  obtain ⟨p, p', h1, h2, h3, h4, rfl⟩ := py2_eq h
  exact ⟨p, p', rep_dp m.same rx h1, rep_dp m.same ry h2, h3, h4, q _ H g Ext.refl m (.bl _)⟩
/-! None -/
def isN : D → Option D
  | .non => some (.bl true)
  | .raw _ => none
  | _ => some (.bl false)
def notN : D → Option D
  | .non => some (.bl false)
  | .raw _ => none
  | _ => some (.bl true)
theorem isN_eq {K : PySem.W.Frag} {g : G} {v : V} {x d : D} (r : Rep K g v x) (h : isN x = some d) : d = .bl (decide (v = .non)) := by
  cases r <;> simp only [isN, Option.some.injEq, reduceCtorEq] at h <;> subst h <;> simp
theorem notN_eq {K : PySem.W.Frag} {g : G} {v : V} {x d : D} (r : Rep K g v x) (h : notN x = some d) : d = .bl (!decide (v = .non)) := by
  cases r <;> simp only [notN, Option.some.injEq, reduceCtorEq] at h <;> subst h <;> simp
variable {E : WK} {a : Expr} {ma : EM} {pos : Pos}
theorem je_isN {j pos'} (ha : JE X E a ma) : JE X E (.Compare a [.Is] [.Constant .none j pos'] pos) (eUn isN ma) :=
  ⟨weakE (pe_cmp (pc_isN ha.pe) rfl) fun σ H Q ⟨env, S, g, sr, q⟩ => ⟨env, S, g, sr, q.bind.mono (fun d S1 q1 v H1 g1 x1 m1 r1 => by
    obtain ⟨u, hu, q2⟩ := q1.ofO
    obtain rfl := isN_eq r1 hu
    exact q2 _ H1 g1 x1 m1 (.bl _)) fun _ _ h => h⟩⟩
theorem je_notN {j pos'} (ha : JE X E a ma) : JE X E (.Compare a [.IsNot] [.Constant .none j pos'] pos) (eUn notN ma) :=
  ⟨weakE (pe_cmp (pc_notN ha.pe) rfl) fun σ H Q ⟨env, S, g, sr, q⟩ => ⟨env, S, g, sr, q.bind.mono (fun d S1 q1 v H1 g1 x1 m1 r1 => by
    obtain ⟨u, hu, q2⟩ := q1.ofO
    obtain rfl := notN_eq r1 hu
    exact q2 _ H1 g1 x1 m1 (.bl _)) fun _ _ h => h⟩⟩
theorem jt_isN {j pos'} (ha : JE X E a ma) : JT X E (.Compare a [.Is] [.Constant .none j pos'] pos) (tOfE (eUn isN ma)) :=
  ⟨weakT (pt_cmp (pc_isN ha.pe) rfl) (tB_of (t := tIsN (tE X.K E ma)) fun σ H Q ⟨env, S, g, sr, q⟩ => ⟨env, S, g, sr, q.bind.mono (fun d S1 q1 v H1 g1 x1 m1 r1 => by
    obtain ⟨u, hu, q2⟩ := q1.ofO
    obtain rfl := isN_eq r1 hu
    exact q2 _ H1 g1 x1 m1 (.bl _)) fun _ _ h => h⟩)⟩
theorem jt_notN {j pos'} (ha : JE X E a ma) : JT X E (.Compare a [.IsNot] [.Constant .none j pos'] pos) (tOfE (eUn notN ma)) :=
  ⟨weakT (pt_cmp (pc_notN ha.pe) rfl) (tB_of (t := tNotN (tE X.K E ma)) fun σ H Q ⟨env, S, g, sr, q⟩ => ⟨env, S, g, sr, q.bind.mono (fun d S1 q1 v H1 g1 x1 m1 r1 => by
    obtain ⟨u, hu, q2⟩ := q1.ofO
    obtain rfl := notN_eq r1 hu
    exact q2 _ H1 g1 x1 m1 (.bl _)) fun _ _ h => h⟩)⟩
end
end Dg

namespace Dg
open PySem PySem.Spec PyProof.Rows L2
section
variable {X : Cx} {E : WK} {e a b : Expr} {es : List Expr} {ma mb mc : EM} {mr : AM} {ml : LM} {pos p : Pos} {x : Str}
/-! ### calls of what is built in -/
def DCall (K : PySem.W.Frag) (r : List V → Hp → VK → Prop) (f : List D → Option D) : Prop := ∀ (g : G) (H : Hp) (S : Sto) (Q : VK) (ds : List D) (vs : List V) (d : D), SRm K H S g → Reps K g vs ds → f ds = some d →
  (∀ u H' g', ExE g H g' H' → SRm K H' S g' → Rep K g' u d → Q u H') → r vs H Q
def eCB (f : List D → Option D) (m : AM) : EM := fun env S => (m env S).bind fun ds S1 => ofO (f ds) S1
theorem tcb_of {r : List V → Hp → VK → Prop} {f : List D → Option D} (hd : DCall X.K r f) : ∀ σ H Q, tE X.K E (eCB f mr) σ H Q → tCB r (tA X.K E mr) σ H Q := fun σ H Q ⟨env, S, g, sr, q⟩ =>
  ⟨env, S, g, sr, q.bind.mono (fun ds S1 q1 vs H1 g1 x1 m1 r1 => by
    obtain ⟨d, hf, q2⟩ := q1.ofO
    exact hd g1 H1 S1 Q ds vs d m1 r1 hf fun u H' g' e' m' r' => q2 u H' g' (x1.trans e') m' r') fun _ _ h => h⟩
theorem je_callB {id : String} {r : List V → Hp → VK → Prop} {f : List D → Option D} (hc : CallR X (.builtin id) r) (hd : DCall X.K r f) (hg : Gl X x) (hm : X.mg x = none) (hv : bootBuiltins x = some (.builtin id)) (ha : JA X E (e :: es) mr)
    (hn : x ≠ "__name__" := by decide) (hdb : (x == ("__debug__" : Str)) = false := by decide) (he : starEach (e :: es) X.env = (false, eval e X.env) :: starEach es X.env := by rfl) (hpl : (backTo pos (starEach es X.env)).any (·.1) = false := by rfl) :
    JE X E (.Call (.Name x p) (e :: es) [] pos) (eCB f mr) := ⟨weakE (pe_callB hc hg hm hv ha.pa hn hdb he hpl) (tcb_of hd)⟩
theorem je_callTy {T : String} {r : List V → Hp → VK → Prop} {f : List D → Option D} (hc : CallR X (.type T) r) (hd : DCall X.K r f) (hg : Gl X x) (hm : X.mg x = none) (hv : bootBuiltins x = some (.type T)) (ha : JA X E (e :: es) mr)
    (hn : x ≠ "__name__" := by decide) (hdb : (x == ("__debug__" : Str)) = false := by decide) (he : starEach (e :: es) X.env = (false, eval e X.env) :: starEach es X.env := by rfl) (hpl : (backTo pos (starEach es X.env)).any (·.1) = false := by rfl) :
    JE X E (.Call (.Name x p) (e :: es) [] pos) (eCB f mr) := ⟨weakE (pe_callTy hc hg hm hv ha.pa hn hdb he hpl) (tcb_of hd)⟩
/-! .. of one sequence -/
def DSeq (K : PySem.W.Frag) (r : List V → Hp → VK → Prop) (f : Bool × List D → Option D) : Prop := ∀ (g : G) (H : Hp) (S : Sto) (Q : VK) (q : Bool × List D) (a : Addr) (vs : List V) (d : D), SRm K H S g → SqAt K H q.1 a vs → Reps K g vs q.2 → f q = some d →
  (∀ u H' g', ExE g H g' H' → SRm K H' S g' → Rep K g' u d → Q u H') → r [.ref a] H Q
def eCL (f : Bool × List D → Option D) (m : LM) : EM := fun env S => (m env S).bind fun q S1 => ofO (f q) S1
theorem tcl_of {r : List V → Hp → VK → Prop} {f : Bool × List D → Option D} (hd : DSeq X.K r f) : ∀ σ H Q, tE X.K E (eCL f ml) σ H Q → tCB r (tCons (tL X.K E ml) tNil) σ H Q := fun σ H Q ⟨env, S, g, sr, q⟩ =>
  ⟨env, S, g, sr, q.bind.mono (fun ds S1 q1 a vs H1 g1 x1 m1 st r1 => by
    obtain ⟨d, hf, q2⟩ := q1.ofO
    exact hd g1 H1 S1 Q ds a vs d m1 (st.now m1) r1 hf fun u H' g' e' m' r' => q2 u H' g' (x1.trans e') m' r') fun _ _ h => h⟩
theorem je_callBL {id : String} {r : List V → Hp → VK → Prop} {f : Bool × List D → Option D} (hc : CallR X (.builtin id) r) (hd : DSeq X.K r f) (hg : Gl X x) (hm : X.mg x = none) (hv : bootBuiltins x = some (.builtin id)) (ha : JL X E e ml)
    (hn : x ≠ "__name__" := by decide) (hdb : (x == ("__debug__" : Str)) = false := by decide) (he : starEach [e] X.env = (false, eval e X.env) :: starEach [] X.env := by rfl) :
    JE X E (.Call (.Name x p) [e] [] pos) (eCL f ml) := ⟨weakE (pe_callB hc hg hm hv (pa_cons ha.pe pa_nil he) hn hdb he rfl) (tcl_of hd)⟩
theorem je_callTyL {T : String} {r : List V → Hp → VK → Prop} {f : Bool × List D → Option D} (hc : CallR X (.type T) r) (hd : DSeq X.K r f) (hg : Gl X x) (hm : X.mg x = none) (hv : bootBuiltins x = some (.type T)) (ha : JL X E e ml)
    (hn : x ≠ "__name__" := by decide) (hdb : (x == ("__debug__" : Str)) = false := by decide) (he : starEach [e] X.env = (false, eval e X.env) :: starEach [] X.env := by rfl) :
    JE X E (.Call (.Name x p) [e] [] pos) (eCL f ml) := ⟨weakE (pe_callTy hc hg hm hv (pa_cons ha.pe pa_nil he) hn hdb he rfl) (tcl_of hd)⟩

/-! len -/
def lenD : List D → Option D
  | [.str x] => if fits x.length = true then some (.int x.length) else none
  | [.tup ds] => some (.int ds.length)
  | [.lst ds] => some (.int ds.length)
  | [.scr ds] => some (.int ds.length)
  | _ => none
theorem dLen : DCall X.K (fun xs H Q => ∃ x n, xs = [x] ∧ LenV X.K x H n ∧ Q (.int n) H) lenD := fun g H S Q ds vs d m r h q => by
  cases r with
  | nil => simp [lenD] at h
  | cons r rs =>
    cases rs with
    | cons _ _ => simp [lenD] at h
    | nil =>
      cases r <;> simp only [lenD, Option.some.injEq, reduceCtorEq] at h
      · split at h
        · rename_i hz
          cases h
          exact ⟨_, _, rfl, ⟨fits_le hz, rfl⟩, q _ H g Ext.refl m (.int _)⟩
        · cases h
      · rename_i h1 r1
        subst h
        exact ⟨_, _, rfl, .inr ⟨_, sqT_mono m.same h1, by rw [r1.length]⟩, q _ H g Ext.refl m (.int _)⟩
      · rename_i h1 r1
        subst h
        exact ⟨_, _, rfl, .inl ⟨_, SqL.of (m.same _ _ h1), by rw [r1.length]⟩, q _ H g Ext.refl m (.int _)⟩
      · rename_i h1 r1
        subst h
        exact ⟨_, _, rfl, .inl ⟨_, m.same.seq h1, by rw [r1.length]⟩, q _ H g Ext.refl m (.int _)⟩
def lenL : Bool × List D → Option D := fun q => some (.int q.2.length)
theorem dLenL : DSeq X.K (fun xs H Q => ∃ x n, xs = [x] ∧ LenV X.K x H n ∧ Q (.int n) H) lenL := fun g H S Q ⟨l, ds⟩ a vs d m hs r h q => by
  simp only [lenL, Option.some.injEq] at h
  subst h
  refine ⟨_, ds.length, rfl, ?_, q _ H g Ext.refl m (.int _)⟩
  cases l with
  | true => exact .inl ⟨vs, hs, by rw [r.length]⟩
  | false => exact .inr ⟨vs, hs, by rw [r.length]⟩
/-! sum, max, min, any, all of a list -/
def intsD : List D → Option (List Int)
  | [] => some []
  | .int i :: ds => match intsD ds with | some ns => some (i :: ns) | none => none
  | _ :: _ => none
theorem intsD_eq : ∀ {ds : List D} {ns : List Int}, intsD ds = some ns → ds = ns.map D.int
  | [], ns, h => by simp only [intsD, Option.some.injEq] at h; subst h; rfl
  | .int i :: ds, ns, h => by
    simp only [intsD] at h
    cases q : intsD ds with
    | none => rw [q] at h; cases h
    | some ms => rw [q] at h; cases h; rw [intsD_eq q]; rfl
  | .non :: ds, ns, h => by simp [intsD] at h
  | .bl _ :: ds, ns, h => by simp [intsD] at h
  | .str _ :: ds, ns, h => by simp [intsD] at h
  | .tup _ :: ds, ns, h => by simp [intsD] at h
  | .lst _ :: ds, ns, h => by simp [intsD] at h
  | .scr _ :: ds, ns, h => by simp [intsD] at h
  | .dK _ :: ds, ns, h => by simp [intsD] at h
  | .dT _ :: ds, ns, h => by simp [intsD] at h
  | .obj _ _ :: ds, ns, h => by simp [intsD] at h
  | .ins _ _ :: ds, ns, h => by simp [intsD] at h
  | .hnd _ :: ds, ns, h => by simp [intsD] at h
  | .raw _ :: ds, ns, h => by simp [intsD] at h
theorem intsD_map : ∀ ns : List Int, intsD (ns.map D.int) = some ns
  | [] => rfl
  | n :: ns => by simp only [List.map_cons, intsD, intsD_map ns]
def blsD : List D → Option (List Bool)
  | [] => some []
  | .bl i :: ds => match blsD ds with | some ns => some (i :: ns) | none => none
  | _ :: _ => none
theorem blsD_eq : ∀ {ds : List D} {ns : List Bool}, blsD ds = some ns → ds = ns.map D.bl
  | [], ns, h => by simp only [blsD, Option.some.injEq] at h; subst h; rfl
  | .bl i :: ds, ns, h => by
    simp only [blsD] at h
    cases q : blsD ds with
    | none => rw [q] at h; cases h
    | some ms => rw [q] at h; cases h; rw [blsD_eq q]; rfl
  | .non :: ds, ns, h => by simp [blsD] at h
  | .int _ :: ds, ns, h => by simp [blsD] at h
  | .str _ :: ds, ns, h => by simp [blsD] at h
  | .tup _ :: ds, ns, h => by simp [blsD] at h
  | .lst _ :: ds, ns, h => by simp [blsD] at h
  | .scr _ :: ds, ns, h => by simp [blsD] at h
  | .dK _ :: ds, ns, h => by simp [blsD] at h
  | .dT _ :: ds, ns, h => by simp [blsD] at h
  | .obj _ _ :: ds, ns, h => by simp [blsD] at h
  | .ins _ _ :: ds, ns, h => by simp [blsD] at h
  | .hnd _ :: ds, ns, h => by simp [blsD] at h
  | .raw _ :: ds, ns, h => by simp [blsD] at h
theorem blsD_map : ∀ ns : List Bool, blsD (ns.map D.bl) = some ns
  | [] => rfl
  | n :: ns => by simp only [List.map_cons, blsD, blsD_map ns]
def maxI : List Int → Int
  | [] => 0
  | [a] => a
  | a :: b :: r => if maxI (b :: r) ≤ a then a else maxI (b :: r)
def minI : List Int → Int
  | [] => 0
  | [a] => a
  | a :: b :: r => if a ≤ minI (b :: r) then a else minI (b :: r)
theorem maxI_ge : ∀ (l : List Int) (y : Int), y ∈ l → y ≤ maxI l
  | [], _, h => by simp at h
  | [a], y, h => by simp at h; subst h; exact Int.le_refl _
  | a :: b :: r, y, h => by
    have ih := maxI_ge (b :: r)
    unfold maxI
    rcases List.mem_cons.mp h with e | h
    · subst e; split <;> omega
    · have := ih y h
      split <;> omega
theorem maxI_mem : ∀ (l : List Int), l ≠ [] → maxI l ∈ l
  | [], h => absurd rfl h
  | [a], _ => by simp [maxI]
  | a :: b :: r, _ => by
    unfold maxI
    split
    · simp
    · exact List.mem_cons_of_mem _ (maxI_mem (b :: r) (by simp))
theorem minI_le : ∀ (l : List Int) (y : Int), y ∈ l → minI l ≤ y
  | [], _, h => by simp at h
  | [a], y, h => by simp at h; subst h; exact Int.le_refl _
  | a :: b :: r, y, h => by
    have ih := minI_le (b :: r)
    unfold minI
    rcases List.mem_cons.mp h with e | h
    · subst e; split <;> omega
    · have := ih y h
      split <;> omega
theorem minI_mem : ∀ (l : List Int), l ≠ [] → minI l ∈ l
  | [], h => absurd rfl h
  | [a], _ => by simp [minI]
  | a :: b :: r, _ => by
    unfold minI
    split
    · simp
    · exact List.mem_cons_of_mem _ (minI_mem (b :: r) (by simp))
def listD {α : Type} (o : List D → Option α) (f : α → Option D) : Bool × List D → Option D := fun q => if q.1 = true then (match o q.2 with | some ns => f ns | none => none) else none
def sumL : Bool × List D → Option D := listD intsD fun ns => some (.int ns.sum)
def maxL : Bool × List D → Option D := listD intsD fun ns => if decide (ns ≠ []) = true then some (.int (maxI ns)) else none
def minL : Bool × List D → Option D := listD intsD fun ns => if decide (ns ≠ []) = true then some (.int (minI ns)) else none
def anyL : Bool × List D → Option D := listD blsD fun ns => some (.bl (ns.any id))
def allL : Bool × List D → Option D := listD blsD fun ns => some (.bl (ns.all id))
theorem listD_eq {α : Type} {o : List D → Option α} {f : α → Option D} {q : Bool × List D} {d : D} (h : listD o f q = some d) : ∃ ns, q.1 = true ∧ o q.2 = some ns ∧ f ns = some d := by
  unfold listD at h
  split at h
  · split at h
    · exact ⟨_, by assumption, by assumption, h⟩
    · cases h
  · cases h
theorem dSum : DSeq X.K (rSum X.K) sumL := fun g H S Q ⟨l, ds⟩ a vs d m hs r h q => by
  obtain ⟨ns, rfl, h2, h3⟩ := listD_eq h
  obtain rfl := intsD_eq h2
  cases h3
  exact ⟨a, ns, rfl, by rw [← r.ints]; exact hs, q _ H g Ext.refl m (.int _)⟩
theorem dMax : DSeq X.K (rMax X.K) maxL := fun g H S Q ⟨l, ds⟩ a vs d m hs r h q => by
  obtain ⟨ns, rfl, h2, h3⟩ := listD_eq h
  obtain rfl := intsD_eq h2
  split at h3
  · rename_i hn
    cases h3
    have hn2 : ns ≠ [] := of_decide_eq_true hn
    refine ⟨a, ns, rfl, by rw [← r.ints]; exact hs, List.length_pos_iff.mpr hn2, fun z hz hy => ?_⟩
    have e : z = maxI ns := Int.le_antisymm (maxI_ge ns z hz) (hy _ (maxI_mem ns hn2))
    rw [e]
    exact q _ H g Ext.refl m (.int _)
  · cases h3
theorem dMin : DSeq X.K (rMin X.K) minL := fun g H S Q ⟨l, ds⟩ a vs d m hs r h q => by
  obtain ⟨ns, rfl, h2, h3⟩ := listD_eq h
  obtain rfl := intsD_eq h2
  split at h3
  · rename_i hn
    cases h3
    have hn2 : ns ≠ [] := of_decide_eq_true hn
    refine ⟨a, ns, rfl, by rw [← r.ints]; exact hs, List.length_pos_iff.mpr hn2, fun z hz hy => ?_⟩
    have e : z = minI ns := Int.le_antisymm (hy _ (minI_mem ns hn2)) (minI_le ns z hz)
    rw [e]
    exact q _ H g Ext.refl m (.int _)
  · cases h3
theorem dAny : DSeq X.K (rAny X.K) anyL := fun g H S Q ⟨l, ds⟩ a vs d m hs r h q => by
  obtain ⟨ns, rfl, h2, h3⟩ := listD_eq h
  obtain rfl := blsD_eq h2
  cases h3
  exact ⟨a, ns, rfl, by rw [← r.bls]; exact hs, q _ H g Ext.refl m (.bl _)⟩
theorem dAll : DSeq X.K (rAll X.K) allL := fun g H S Q ⟨l, ds⟩ a vs d m hs r h q => by
  obtain ⟨ns, rfl, h2, h3⟩ := listD_eq h
  obtain rfl := blsD_eq h2
  cases h3
  exact ⟨a, ns, rfl, by rw [← r.bls]; exact hs, q _ H g Ext.refl m (.bl _)⟩
/-! list(), tuple() of a sequence -/
def listOfL : Bool × List D → Option D := fun q => some (.lst q.2)
def tupleOfL : Bool × List D → Option D := fun q => some (.tup q.2)
theorem dListOf : DSeq X.K (fun xs H Q => ∃ p ys, xs = [.ref p] ∧ (SqL X.K H p ys ∨ SqT X.K H p ys) ∧ ∀ l, H l = none → Q (.ref l) (upd H l (.lst ys))) listOfL := fun g H S Q ⟨l, ds⟩ a vs d m hs r h q => by
  simp only [listOfL, Option.some.injEq] at h
  subst h
  refine ⟨a, vs, rfl, by cases l <;> first | exact .inl hs | exact .inr hs, fun p hp => ?_⟩
  obtain ⟨x2, m2⟩ := laidB (o := .lst vs) m hp
  exact q _ _ _ x2 m2 (.lst upd_same (r.mono x2.le))
end
end Dg

namespace Dg
open PySem PySem.Spec PyProof.Rows L2
/-- the owned lists' places -/
def Lv (σ : Sg) (env : Ev) : Addr → Prop := fun a => ∃ (i : Nat) (o : MObj), env[i]? = some (.live o) ∧ σ[i]? = some (some (.ref a))
/-! ### targets -/
abbrev PM := D → Ev → Option Ev
def POk (K : PySem.W.Frag) (t : TG) (sl : List Nat) (p : PM) : Prop := ∀ (σ : Sg) (H : Hp) (env : Ev) (S : Sto) (g : G) (v : V) (d : D) (env' : Ev) (Q : Sg → Hp → Prop), SR K σ H env S g → Rep K g v d → p d env = some env' →
    (∀ σ', SR K σ' H env' S g → (∀ a, Lv σ' env' a → Lv σ env a) → (∀ i, i ∉ sl → σ'[i]? = σ[i]?) → σ'.length = σ.length → Q σ' H) → t v σ H Q
abbrev PMs := List D → Ev → Option Ev
def POks (K : PySem.W.Frag) (t : TGs) (sl : List Nat) (p : PMs) : Prop := ∀ (σ : Sg) (H : Hp) (env : Ev) (S : Sto) (g : G) (v : List V) (d : List D) (env' : Ev) (Q : Sg → Hp → Prop), SR K σ H env S g → Reps K g v d → p d env = some env' →
    (∀ σ', SR K σ' H env' S g → (∀ a, Lv σ' env' a → Lv σ env a) → (∀ i, i ∉ sl → σ'[i]? = σ[i]?) → σ'.length = σ.length → Q σ' H) → t v σ H Q
def setV (i : Nat) (d : D) (env : Ev) : Option Ev := if i < env.length then some (env.set i (.val d)) else none
def pNm (i : Nat) : PM := fun d env => setV i d env
theorem SR.put {K : PySem.W.Frag} {σ : Sg} {H : Hp} {env env' : Ev} {S : Sto} {g : G} {i : Nat} {v : V} {d : D} (s : SR K σ H env S g) (r : Rep K g v d) (h : setV i d env = some env') :
    SR K (σ.set i (some v)) H env' S g ∧ (∀ a, Lv (σ.set i (some v)) env' a → Lv σ env a) := by
  unfold setV at h
  split at h
  · rename_i hi
    cases h
    have hiσ : i < σ.length := by rw [s.len]; exact hi
    have live_of : ∀ (j : Nat) o, (env.set i (.val d))[j]? = some (.live o) → j ≠ i ∧ env[j]? = some (.live o) := fun j o e => by
      by_cases q : j = i
      · subst q
        rw [List.getElem?_set_self hi] at e
        cases e
      · rw [List.getElem?_set_ne (Ne.symm q)] at e
        exact ⟨q, e⟩
    refine ⟨⟨s.m, by simp [s.len], fun j d' e => ?_, fun j o e => ?_, fun j k o o' a hjk e1 e2 e3 => ?_⟩, fun a ⟨j, o, e1, e2⟩ => ?_⟩
    · by_cases q : j = i
      · subst q
        rw [List.getElem?_set_self hi] at e
        cases e
        exact ⟨v, by rw [List.getElem?_set_self hiσ], r⟩
      · rw [List.getElem?_set_ne (Ne.symm q)] at e ⊢
        exact s.val j d' e
    · obtain ⟨q, e'⟩ := live_of j o e
      rw [List.getElem?_set_ne (Ne.symm q)]
      exact s.lv j o e'
    · obtain ⟨q1, e1'⟩ := live_of j o e1
      obtain ⟨q2, e2'⟩ := live_of k o' e2
      rw [List.getElem?_set_ne (Ne.symm q1)] at e3
      rw [List.getElem?_set_ne (Ne.symm q2)]
      exact s.lnd j k o o' a hjk e1' e2' e3
    · obtain ⟨q1, e1'⟩ := live_of j o e1
      rw [List.getElem?_set_ne (Ne.symm q1)] at e2
      exact ⟨j, o, e1', e2⟩
  · cases h
section
variable {K : PySem.W.Frag}
theorem pok_nm {i : Nat} : POk K (gName i) [i] (pNm i) := fun σ H env S g v d env' Q s r h q => by
  obtain ⟨s2, l2⟩ := s.put r h
  refine q _ s2 l2 (fun j hj => ?_) (by simp)
  rw [List.getElem?_set_ne (fun z => hj (by simp [z]))]
def psNil : PMs := fun ds env => match ds with | [] => some env | _ => none
def psCons (p : PM) (r : PMs) : PMs := fun ds env => match ds with
  | d :: ds => match p d env with | some env1 => r ds env1 | none => none
  | [] => none
theorem poks_nil : POks K gNil [] psNil := fun σ H env S g v d env' Q s r h q => by
  cases r with
  | nil =>
    cases h
    exact ⟨rfl, q σ s (fun _ h => h) (fun _ _ => rfl) rfl⟩
  | cons _ _ => cases h
theorem poks_cons {p : PM} {r : PMs} {sl sl' : List Nat} {t1 : TG} {t2 : TGs} (k1 : POk K t1 sl p) (k2 : POks K t2 sl' r) : POks K (gCons t1 t2) (sl ++ sl') (psCons p r) := fun σ H env S g v d env' Q s rr h q => by
  cases rr with
  | nil => cases h
  | cons r1 r2 =>
    rename_i v0 d0 vs ds
    cases h3 : p d0 env with
    | none => simp only [psCons, h3] at h; cases h
    | some env1 =>
      simp only [psCons, h3] at h
      refine ⟨_, _, rfl, k1 σ H env S g _ _ env1 _ s r1 h3 fun σ1 s1 l1 n1 z1 => k2 σ1 H env1 S g _ _ env' _ s1 r2 h fun σ2 s2 l2 n2 z2 => q σ2 s2 (fun a z => l1 a (l2 a z)) (fun i hi => ?_) (z2.trans z1)⟩
      rw [n2 i fun z => hi (List.mem_append_right _ z), n1 i fun z => hi (List.mem_append_left _ z)]
def tupD : D → Option (List D)
  | .tup ds => some ds
  | _ => none
def pTp (r : PMs) (n : Nat) : PM := fun d env => match tupD d with
  | some ds => if ds.length = n then r ds env else none
  | none => none
theorem pok_tp {n : Nat} {r : PMs} {sl : List Nat} {t : TGs} (k1 : POks K t sl r) : POk K (gTup K n t) sl (pTp r n) := fun σ H env S g v d env' Q s rr h q => by
  cases rr <;> simp only [pTp, tupD] at h <;> try (cases h; done)
  rename_i a vs ds h1 r1
  split at h
  · rename_i hl
    exact ⟨a, vs, rfl, sqT_mono s.m.same h1, by rw [r1.length]; exact hl, k1 σ H env S g vs ds env' Q s r1 h q⟩
  · cases h
end
/-! ### what is walked -/
def IterE (K : PySem.W.Frag) (J : It) (g : G) (H : Hp) (ds : List D) : Prop := ∀ H' S' g', ExE g H g' H' → SRm K H' S' g' →
  (∀ (i : Nat) d, ds[i]? = some d → J.go i H' ∧ ∀ v H'', J.yld i H' v H'' → ∃ g'', ExE g' H' g'' H'' ∧ SRm K H'' S' g'' ∧ Rep K g'' v d) ∧ J.stop ds.length H'
def IterB (K : PySem.W.Frag) (J : It) (g : G) (ds : List D) : Prop := ∀ H' S' g', Le g g' → SRm K H' S' g' →
  (∀ (i : Nat) d, ds[i]? = some d → J.go i H' ∧ ∀ v H'', J.yld i H' v H'' → ∃ g'', ExE g' H' g'' H'' ∧ SRm K H'' S' g'' ∧ Rep K g'' v d) ∧ J.stop ds.length H'
theorem IterB.e {K : PySem.W.Frag} {J : It} {g : G} {H : Hp} {ds : List D} (h : IterB K J g ds) : IterE K J g H ds := fun H' S' g' x m => h H' S' g' x.le m
def tIE (K : PySem.W.Frag) (E : WK) (m : AM) : TI := fun σ H R => ∃ env S g, SR K σ H env S g ∧ Res (m env S) (fun ds S' => ∀ J H' g', ExE g H g' H' → SRm K H' S' g' → IterE K J g' H' ds → R J H') fun x S' => RX K (E σ) NoL g H x S'
def tIB (K : PySem.W.Frag) (E : WK) (m : AM) : TI := fun σ H R => ∃ env S g, SR K σ H env S g ∧ Res (m env S) (fun ds S' => ∀ J H' g', ExE g H g' H' → SRm K H' S' g' → IterB K J g' ds → R J H') fun x S' => RX K (E σ) NoL g H x S'
structure JI (X : Cx) (E : WK) (tg e : Expr) (m : AM) : Prop where
  pi : PI X tg e (tIB X.K E m)
structure JC (X : Cx) (E : WK) (tg e : Expr) (m : AM) : Prop where
  pi : PI X tg e (tIE X.K E m)
theorem weakI {X : Cx} {tg e : Expr} {t t' : TI} (h : PI X tg e t) (i : ∀ σ H Q, t' σ H Q → t σ H Q) : PI X tg e t' := ⟨fun pins s σ H Q I q => h.run pins s σ H Q I (i _ _ _ q)⟩
theorem orI {X : Cx} {tg e : Expr} {t t' : TI} (h : PI X tg e t) (h' : PI X tg e t') : PI X tg e (fun σ H R => t σ H R ∨ t' σ H R) := ⟨fun pins s σ H Q I q => q.elim (h.run pins s σ H Q I) (h'.run pins s σ H Q I)⟩
section
variable {X : Cx} {E : WK} {tg e a b : Expr} {ma mb : EM} {mr : AM} {ml : LM} {pos p : Pos}
theorem jc_i (h : JI X E tg e mr) : JC X E tg e mr := ⟨weakI h.pi fun σ H R ⟨env, S, g, sr, q⟩ => ⟨env, S, g, sr, q.mono (fun ds S1 q1 J H1 g1 x1 m1 it => q1 J H1 g1 x1 m1 it.e) fun _ _ h => h⟩⟩
theorem iter_tup {K : PySem.W.Frag} {g : G} {a : Addr} {vs : List V} {ds : List D} (hs : SqT K g.B a vs) (r : Reps K g vs ds) : IterB K (Itt K a) g ds := fun H' S' g' l m => by
  have h2 : SqT K H' a vs := sqT_mono (l.B.trans m.same) hs
  refine ⟨fun i d e => ?_, ⟨vs, h2, by rw [r.length]; exact Nat.le_refl _⟩⟩
  obtain ⟨v, e1, r1⟩ := r.at e
  refine ⟨⟨vs, v, h2, e1⟩, fun u H'' ⟨q1, q2⟩ => ?_⟩
  have q3 := q2 vs h2
  rw [e1] at q3
  cases q3
  subst q1
  exact ⟨g', Ext.refl, m, r1.mono l⟩
theorem iter_lst {K : PySem.W.Frag} {g : G} {a : Addr} {vs : List V} {ds : List D} (hs : SqL K g.B a vs) (r : Reps K g vs ds) : IterB K (Itl K a) g ds := fun H' S' g' l m => by
  have h2 : SqL K H' a vs := (l.B.trans m.same).seq hs
  refine ⟨fun i d e => ?_, ⟨vs, h2, by rw [r.length]; exact Nat.le_refl _⟩⟩
  obtain ⟨v, e1, r1⟩ := r.at e
  refine ⟨⟨vs, v, h2, e1⟩, fun u H'' ⟨q1, q2⟩ => ?_⟩
  have q3 := q2 vs h2
  rw [e1] at q3
  cases q3
  subst q1
  exact ⟨g', Ext.refl, m, r1.mono l⟩
theorem iter_own {K : PySem.W.Frag} {g : G} {H : Hp} {a : Addr} {vs : List V} {ds : List D} (hs : Stb K g H true a vs) (r : Reps K g vs ds) : IterE K (Itl K a) g H ds := fun H' S' g' x m => by
  have h2 : SqL K H' a vs := hs H' S' g' x m
  refine ⟨fun i d e => ?_, ⟨vs, h2, by rw [r.length]; exact Nat.le_refl _⟩⟩
  obtain ⟨v, e1, r1⟩ := r.at e
  refine ⟨⟨vs, v, h2, e1⟩, fun u H'' ⟨q1, q2⟩ => ?_⟩
  have q3 := q2 vs h2
  rw [e1] at q3
  cases q3
  subst q1
  exact ⟨g', Ext.refl, m, r1.mono x.le⟩
def itemsD : D → Option (List D)
  | .tup ds => some ds
  | .lst ds => some ds
  | .scr ds => some ds
  | _ => none
def aItems (m : EM) : AM := fun env S => (m env S).bind fun d S1 => ofO (itemsD d) S1
theorem ji_e (h : JE X E e ma) : JI X E tg e (aItems ma) := ⟨weakI (orI (pi_list h.pe) (pi_tup h.pe)) fun σ H R ⟨env, S, g, sr, q⟩ => by
  have q := q.bind
  cases hm : ma env S with
  | bad => rw [hm] at q; exact q.elim
  | raise x S1 => rw [hm] at q; exact .inl ⟨env, S, g, sr, by rw [hm]; exact q⟩
  | ok d S1 =>
    rw [hm] at q
    obtain ⟨ds, hd, q2⟩ := Res.ofO q
    cases d <;> simp only [itemsD, Option.some.injEq, reduceCtorEq] at hd
    · subst hd
      refine .inr ⟨env, S, g, sr, by
        rw [hm]
        intro v H1 g1 x1 m1 r1
        cases r1 with
        | tup h1 r2 => exact ⟨_, rfl, ⟨_, sqT_mono m1.same h1⟩, q2 _ H1 g1 x1 m1 (iter_tup h1 r2)⟩⟩
    · subst hd
      refine .inl ⟨env, S, g, sr, by
        rw [hm]
        intro v H1 g1 x1 m1 r1
        cases r1 with
        | lst h1 r2 => exact ⟨_, rfl, ⟨_, SqL.of (m1.same _ _ h1)⟩, q2 _ H1 g1 x1 m1 (iter_lst (SqL.of h1) r2)⟩⟩
    · subst hd
      refine .inl ⟨env, S, g, sr, by
        rw [hm]
        intro v H1 g1 x1 m1 r1
        cases r1 with
        | scr h1 r2 => exact ⟨_, rfl, ⟨_, m1.same.seq h1⟩, q2 _ H1 g1 x1 m1 (iter_lst h1 r2)⟩⟩⟩
def aItemsL (m : LM) : AM := fun env S => (m env S).bind fun q S1 => ifO q.1 (.ok q.2 S1)
/-- an owned list, in a comprehension -/
theorem jc_l (h : JL X E e ml) : JC X E tg e (aItemsL ml) := ⟨weakI (pi_list h.pe) fun σ H R ⟨env, S, g, sr, q⟩ => ⟨env, S, g, sr, q.bind.mono (fun d S1 q1 a vs H1 g1 x1 m1 st r1 => by
  obtain ⟨l, ds⟩ := d
  obtain ⟨h1, q2⟩ := q1.ifO
  simp only at h1
  subst h1
  exact ⟨a, rfl, ⟨vs, st.now m1⟩, q2 _ H1 g1 x1 m1 (iter_own st r1)⟩) fun _ _ h => h⟩⟩
/-! range -/
def rngB (j : Int) : Bool := decide (-(2 ^ 62) ≤ j) && decide (j < 2 ^ 62)
def rngD1 : List D → Option (List D)
  | [.int j] => if rngB j = true then some ((List.range j.toNat).map fun i => .int ((i : Nat) : Int)) else none
  | _ => none
def rngD2 : List D → Option (List D)
  | [.int i, .int j] => if (rngB i && rngB j) = true then some ((List.range (j - i).toNat).map fun k => .int (i + ((k : Nat) : Int))) else none
  | _ => none
def aRng (f : List D → Option (List D)) (m : AM) : AM := fun env S => (m env S).bind fun ds S1 => ofO (f ds) S1
theorem iter_rng {K : PySem.W.Frag} {g : G} (lo : Int) (n : Nat) : IterB K (Itr lo n) g ((List.range n).map fun k => .int (lo + ((k : Nat) : Int))) := fun H' S' g' l m => by
  refine ⟨fun i d e => ?_, by simp [Itr]⟩
  rw [List.getElem?_map, Option.map_eq_some_iff] at e
  obtain ⟨k, hk, rfl⟩ := e
  obtain ⟨hk1, hk2⟩ := List.getElem?_eq_some_iff.mp hk
  rw [List.getElem_range] at hk2
  subst hk2
  rw [List.length_range] at hk1
  refine ⟨hk1, fun u H'' ⟨q1, q2⟩ => ?_⟩
  subst q1 q2
  exact ⟨g', Ext.refl, m, .int _⟩
theorem ji_rng1 (hg : Gl X "range") (hm : X.mg "range" = none) (ha : JA X E [a] mr) (hs : starEach [a] X.env = [(false, eval a X.env)] := by rfl) : JI X E tg (.Call (.Name "range" p) [a] [] pos) (aRng rngD1 mr) :=
  ⟨weakI (pi_range1 hg hm ha.pa hs) fun σ H R ⟨env, S, g, sr, q⟩ => ⟨env, S, g, sr, q.bind.mono (fun ds S1 q1 vs H1 g1 x1 m1 r1 => by
    obtain ⟨is, h1, q2⟩ := q1.ofO
    cases r1 with
    | nil => simp [rngD1] at h1
    | cons r rs =>
      cases rs with
      | cons _ _ => simp [rngD1] at h1
      | nil =>
        cases r <;> simp only [rngD1, reduceCtorEq] at h1
        rename_i j
        split at h1
        · rename_i hz
          simp only [rngB, Bool.and_eq_true, decide_eq_true_eq] at hz
          cases h1
          refine ⟨j, rfl, hz.1, hz.2, q2 _ H1 g1 x1 m1 ?_⟩
          have h := iter_rng (K := X.K) (g := g1) 0 j.toNat
          simpa using h
        · cases h1) fun _ _ h => h⟩⟩
theorem ji_rng2 (hg : Gl X "range") (hm : X.mg "range" = none) (ha : JA X E [a, b] mr) (hs : starEach [a, b] X.env = [(false, eval a X.env), (false, eval b X.env)] := by rfl) (hs2 : starEach [b] X.env = [(false, eval b X.env)] := by rfl) :
    JI X E tg (.Call (.Name "range" p) [a, b] [] pos) (aRng rngD2 mr) :=
  ⟨weakI (pi_range2 hg hm ha.pa hs hs2) fun σ H R ⟨env, S, g, sr, q⟩ => ⟨env, S, g, sr, q.bind.mono (fun ds S1 q1 vs H1 g1 x1 m1 r1 => by
    obtain ⟨is, h1, q2⟩ := q1.ofO
    cases r1 with
    | nil => simp [rngD2] at h1
    | cons r rs =>
      cases rs with
      | nil => simp [rngD2] at h1
      | cons r2 rs =>
        cases rs with
        | cons _ _ => simp [rngD2] at h1
        | nil =>
          cases r <;> cases r2 <;> simp only [rngD2, reduceCtorEq] at h1
          rename_i i j
          split at h1
          · rename_i hz
            simp only [rngB, Bool.and_eq_true, decide_eq_true_eq] at hz
            cases h1
            exact ⟨i, j, rfl, ⟨hz.1.1, hz.1.2, hz.2.1, hz.2.2⟩, q2 _ H1 g1 x1 m1 (iter_rng i (j - i).toNat)⟩
          · cases h1) fun _ _ h => h⟩⟩
end
/-! ### comprehensions -/
def wipeE (env : Ev) : List Nat → Ev
  | [] => env
  | v :: vs => (wipeE env vs).set v .no
theorem wipeE_length (env : Ev) : ∀ vs : List Nat, (wipeE env vs).length = env.length
  | [] => rfl
  | v :: vs => by unfold wipeE; rw [List.length_set, wipeE_length env vs]
theorem wipeE_val {env : Ev} {i : Nat} {o : Slot} (hno : o ≠ .no) : ∀ {vs : List Nat}, (wipeE env vs)[i]? = some o → env[i]? = some o ∧ i ∉ vs
  | [], h => ⟨h, by simp⟩
  | v :: vs, h => by
    unfold wipeE at h
    by_cases hi : v = i
    · subst hi
      by_cases hv : v < (wipeE env vs).length
      · rw [List.getElem?_set_self hv] at h
        cases h
        exact absurd rfl hno
      · rw [List.getElem?_eq_none (by simpa using hv)] at h; cases h
    · rw [List.getElem?_set_ne hi] at h
      obtain ⟨h1, h2⟩ := wipeE_val hno h
      exact ⟨h1, by simp only [List.mem_cons, not_or]; exact ⟨fun e => hi e.symm, h2⟩⟩
theorem SR.wipe {K : PySem.W.Frag} {σ : Sg} {H : Hp} {env : Ev} {S : Sto} {g : G} (s : SR K σ H env S g) (vs : List Nat) : SR K (L2.wipe σ vs) H (wipeE env vs) S g where
  m := s.m
  len := by rw [wipe_length, wipeE_length, s.len]
  val := fun i d e => by
    obtain ⟨e1, n⟩ := wipeE_val (by intro z; cases z) e
    rw [wipe_out n]
    exact s.val i d e1
  lv := fun i o e => by
    obtain ⟨e1, n⟩ := wipeE_val (by intro z; cases z) e
    rw [wipe_out n]
    exact s.lv i o e1
  lnd := fun i j o o' a hij e1 e2 e3 => by
    obtain ⟨f1, n1⟩ := wipeE_val (by intro z; cases z) e1
    obtain ⟨f2, n2⟩ := wipeE_val (by intro z; cases z) e2
    rw [wipe_out n1] at e3
    rw [wipe_out n2]
    exact s.lnd i j o o' a hij f1 f2 e3
theorem wipe_at {σ : Sg} {i : Nat} : ∀ {vs : List Nat}, i ∈ vs → i < σ.length → (L2.wipe σ vs)[i]? = some none
  | [], h, _ => by simp at h
  | v :: vs, h, hl => by
    unfold L2.wipe
    by_cases e : v = i
    · subst e
      rw [List.getElem?_set_self (by rw [wipe_length]; exact hl)]
    · rw [List.getElem?_set_ne e]
      exact wipe_at (by simpa [Ne.symm e] using h) hl
theorem wipe_eq {σ σ' : Sg} {vs : List Nat} (hl : σ'.length = σ.length) (h : ∀ i, i ∉ vs → σ'[i]? = σ[i]?) : L2.wipe σ' vs = L2.wipe σ vs := by
  apply List.ext_getElem?
  intro i
  by_cases hi : i ∈ vs
  · by_cases hn : i < σ.length
    · rw [wipe_at hi hn, wipe_at hi (by rw [hl]; exact hn)]
    · rw [List.getElem?_eq_none (by rw [wipe_length]; omega), List.getElem?_eq_none (by rw [wipe_length]; omega)]
  · rw [wipe_out hi, wipe_out hi]
    exact h i hi
theorem wipe_wipe (σ : Sg) (vs : List Nat) : L2.wipe (L2.wipe σ vs) vs = L2.wipe σ vs := wipe_eq (wipe_length _ _) fun i hi => wipe_out hi
def noR {α : Type} (o : Out α) : Out α := match o with
  | .ok a S => .ok a S
  | _ => .bad
theorem Res.noR {α : Type} {o : Out α} {ok : α → Sto → Prop} {rs rs' : Ex → Sto → Prop} (h : Res (Dg.noR o) ok rs) : Res o ok rs' := by
  cases o <;> first | exact h | exact h.elim
def tYs : TM := fun _ S => .ok true S
def lcLoop (p : PM) (t : TM) (elt : EM) (vs : List Nat) : List D → Ev → Sto → Out (List D)
  | [], _, S => .ok [] S
  | d :: ds, env, S => (ofO (p d (wipeE env vs)) S).bind fun env1 S0 => (noR (t env1 S0)).bind fun b S1 => match b with
    | false => lcLoop p t elt vs ds env S1
    | true => (noR (elt env1 S1)).bind fun y S2 => (lcLoop p t elt vs ds env S2).bind fun ys S3 => .ok (y :: ys) S3
def fLc (m : AM) (p : PM) (t : TM) (elt : EM) (vs : List Nat) : AM := fun env S => (m env S).bind fun ds S1 => (noR (lcLoop p t elt vs ds env S1)).bind fun ys S2 => ifO (fits ys.length) (.ok ys S2)
/-- no exception is let out of a block -/
abbrev E00 : WK := fun _ _ _ _ => False
structure JTs (X : Cx) (ifs : List Expr) (m : TM) : Prop where
  pt : PTs X ifs (tT X.K E00 m)
theorem jts_nil {X : Cx} : JTs X [] tYs := ⟨⟨fun pins s σ H Q I ⟨env, S, g, sr, q⟩ => pts_nil.run pins s σ H Q I (q H g Ext.refl sr.m)⟩⟩
theorem jts_one {X : Cx} {c : Expr} {m : TM} (h : JT X E00 c m) : JTs X [c] m := ⟨pts_one h.pt⟩
/-- the list L that is being made aside, a block's step -/
theorem Ext.but {g g1 g2 : G} {H0 H1 H2 : Hp} {L : Addr} (x : Ext NoL g H0 (fun a => a = L) g1 H1) (e : ExE g1 H1 g2 H2) (hL : L ∉ g1.al) : Ext NoL g H0 (fun a => a = L) g2 H2 := x.trans e.lift
section
variable {X : Cx} {E : WK}
theorem Res.ex {α : Type} {o : Out α} {ok : α → Sto → Prop} (h : Res o ok fun _ _ => False) : ∃ a S, o = .ok a S ∧ ok a S := by
  cases o with
  | ok a S => exact ⟨a, S, rfl, h⟩
  | raise _ _ => exact h.elim
  | bad => exact h.elim
theorem SRm.own {K : PySem.W.Frag} {g : G} {H : Hp} {S : Sto} {L : Addr} {o : HO} (m : SRm K H S g) (hB : g.B L = none) (hA : L ∉ g.al) : SRm K (upd H L o) S g :=
  ⟨fun b u h => by rw [upd_ne (ne_of_none h hB)]; exact m.same _ _ h, m.len, m.nd, m.fr, fun k a u h1 h2 => (m.mem k a u h1 h2).mono (Le.refl _) fun u' hu => by
    rw [upd_ne (fun z => hA (by rw [← z]; exact List.mem_of_getElem? h1))]
    exact hu⟩
theorem tlc_of {wi : TI} {mi : AM} {p : PM} {gt : TG} {tt : TT} {te : TE} {mt : TM} {me : EM} {vs sl : List Nat} (hw : ∀ σ H R, tIE X.K E mi σ H R → wi σ H R)
    (hp : POk X.K gt sl p)
    (hsl : ∀ i ∈ sl, i ∈ vs) (ht : ∀ σ H Q, tT X.K E00 mt σ H Q → tt σ H Q) (he : ∀ σ H Q, tE X.K E00 me σ H Q → te σ H Q) :
    ∀ σ H Q, tF X.K E (fLc mi p mt me vs) σ H Q → tLc wi gt tt te vs σ H Q := fun σ H Q ⟨env, S, g, sr, q⟩ => by
  refine hw σ H _ ⟨env, S, g, sr, q.bind.mono (fun ds S1 q1 J H1 g1 x1 m1 it => ?_) fun _ _ h => h⟩
  intro L hL
  obtain ⟨xL, mL, bL, aL⟩ := laidF (o := .lst []) m1 hL
  have xL' : Ext NoL g1 H1 (fun a => a = L) g1 (upd H1 L (.lst [])) := ⟨xL.le, xL.kp, xL.dom, xL.fB, xL.fA, fun a ha => .inr (by rw [ha]; exact hL)⟩
  have q1' : Res (lcLoop p mt me vs ds env S1) (fun ys S2 => fits ys.length = true ∧ ∀ (a : Addr) (us : List V) (H' : Hp) (g' : G), ExE g H g' H' → SRm X.K H' S2 g' → H' a = some (.lst us) → H a = none → g'.B a = none → a ∉ g'.al → Reps X.K g' us ys → Q (.ref a) H') (fun _ _ => False) :=
    (Res.noR q1.bind).mono (fun ys S2 q2 => q2.ifO) fun _ _ h => h
  refine ⟨fun i m H' => m = ds.length - i ∧ i ≤ ds.length ∧ ∃ (S' : Sto) (g' : G) (us : List V) (acc : List D), Ext NoL g1 H1 (fun a => a = L) g' H' ∧ SRm X.K H' S' g' ∧ H' L = some (.lst us) ∧ g'.B L = none ∧ L ∉ g'.al ∧ Reps X.K g' us acc ∧
    Res (lcLoop p mt me vs (ds.drop i) env S') (fun ys S2 => fits (acc ++ ys).length = true ∧ ∀ (a : Addr) (us : List V) (H' : Hp) (g' : G), ExE g H g' H' → SRm X.K H' S2 g' → H' a = some (.lst us) → H a = none → g'.B a = none → a ∉ g'.al → Reps X.K g' us (acc ++ ys) → Q (.ref a) H') (fun _ _ => False),
    ⟨_, rfl, Nat.zero_le _, S1, g1, [], [], xL', mL, upd_same, bL, aL, .nil, q1'⟩, ?_⟩
  rintro i m H' ⟨rfl, hi, S', g', us, acc, x2, m2, hL2, bL2, aL2, ra, rq⟩
  -- what the step from H1 may have changed is L alone
  have xe : ExE g1 H1 g' H' := ⟨x2.le, x2.kp, x2.dom, x2.fB, x2.fA, fun _ h => h.elim⟩
  have sr2 : SR X.K σ H' env S' g' := sr.step (x1.trans xe) m2
  obtain ⟨itG, itS⟩ := it H' S' g' xe m2
  by_cases hlt : i < ds.length
  · obtain ⟨hgo, hy⟩ := itG i ds[i] (by simp [hlt])
    refine .inr ⟨hgo, fun H3 => ∃ (S' : Sto) (g' : G) (us : List V) (acc : List D), Ext NoL g1 H1 (fun a => a = L) g' H3 ∧ SRm X.K H3 S' g' ∧ H3 L = some (.lst us) ∧ g'.B L = none ∧ L ∉ g'.al ∧ Reps X.K g' us acc ∧
      Res (lcLoop p mt me vs (ds.drop (i + 1)) env S') (fun ys S2 => fits (acc ++ ys).length = true ∧ ∀ (a : Addr) (us : List V) (H' : Hp) (g' : G), ExE g H g' H' → SRm X.K H' S2 g' → H' a = some (.lst us) → H a = none → g'.B a = none → a ∉ g'.al → Reps X.K g' us (acc ++ ys) → Q (.ref a) H') (fun _ _ => False),
      fun H3 hN => ⟨ds.length - (i + 1), by omega, rfl, hlt, hN⟩, fun v H3 hv => ?_⟩
    obtain ⟨g3, x3, m3, r3⟩ := hy v H3 hv
    rw [List.drop_eq_getElem_cons hlt] at rq
    unfold lcLoop at rq
    obtain ⟨env1, hp1, rq1⟩ := Res.ofO rq.bind
    -- an expression's step keeps L
    have keepL : ∀ {g4 : G} {H4 : Hp} {S4 : Sto}, ExE g' H' g4 H4 → SRm X.K H4 S4 g4 → Ext NoL g1 H1 (fun a => a = L) g4 H4 ∧ H4 L = some (.lst us) ∧ g4.B L = none ∧ L ∉ g4.al := fun {g4 H4 S4} x4 m4 => by
      refine ⟨x2.but x4 aL2, x4.kp L _ hL2 aL2 (fun z => z), ?_, fun z => ?_⟩
      · cases hb : g4.B L with
        | none => rfl
        | some o =>
          rcases x4.fB L o hb bL2 with z | z
          · exact z.elim
          · rw [hL2] at z; cases z
      · rcases x4.fA L z with z | z
        · exact aL2 z
        · rw [hL2] at z; cases z
    have srw : SR X.K (L2.wipe σ vs) H3 (wipeE env vs) S' g3 := (sr2.step x3 m3).wipe vs
    refine hp (L2.wipe σ vs) H3 (wipeE env vs) S' g3 v _ env1 _ srw r3 hp1 fun σ2 s2 l2 n2 z2 => ⟨?_, ?_⟩
    · rw [wipe_eq z2 (fun i hi => n2 i fun z => hi (hsl i z)), wipe_wipe]
    · refine ht σ2 H3 _ ⟨env1, S', g3, s2, (Res.noR rq1.bind).mono (fun b S4 q4 H4 g4 x4 m4 => ?_) (fun _ _ h => h)⟩
      cases b with
      | false =>
        obtain ⟨k1, k2, k3, k4⟩ := keepL (x3.trans x4) m4
        exact iteF ⟨S4, g4, us, acc, k1, m4, k2, k3, k4, (ra.mono x3.le).mono x4.le, q4⟩
      | true =>
        refine iteT (he σ2 H4 _ ⟨env1, S4, g4, s2.step x4 m4, (Res.noR q4.bind).mono (fun y S5 q5 u H5 g5 x5 m5 r5 => ?_) (fun _ _ h => h)⟩)
        obtain ⟨k1, k2, k3, k4⟩ := keepL ((x3.trans x4).trans x5) m5
        have q6 := q5.bind
        refine ⟨us, k2, ?_, S5, g5, us ++ [u], acc ++ [y], ⟨k1.le, fun a o h n nl => ?_, fun a h => ?_, k1.fB, k1.fA, k1.fL⟩, m5.own k3 k4, upd_same, k3, k4, (((ra.mono x3.le).mono x4.le).mono x5.le).append (.cons r5 .nil), q6.mono (fun ys S6 q7 => ?_) (fun _ _ h => h)⟩
        · obtain ⟨ys, S6, _, q7⟩ := q6.ex
          have hz := fits_le q7.1
          rw [ra.length]
          simp only [List.length_append, List.length_cons] at hz
          omega
        · rw [upd_ne (ne_of_none h hL)]
          exact k1.kp a o h n nl
        · by_cases z : a = L
          · rw [z]; exact hL
          · rw [upd_ne z] at h
            exact k1.dom a h
        · rw [List.append_assoc]
          exact q7
  · have e : i = ds.length := by omega
    subst e
    refine .inl ⟨itS, ?_⟩
    rw [List.drop_length] at rq
    unfold lcLoop at rq
    obtain ⟨hz, rq⟩ := rq
    rw [List.append_nil] at rq
    exact rq L us H' g' (x1.trans xe) m2 hL2 (x1.dom L hL) bL2 aL2 ra
variable {elt tg iter : Expr} {ifs : List Expr} {scope : Scope} {own : List (Str × Nat)} {pos : Pos} {mi : AM} {p : PM} {mt : TM} {me : EM} {sl : List Nat}
theorem jf_lc {gt : TG} (hc : X.calm = true) (hN : X.N.Nodup) (hi : JC X E tg iter mi) (ok : BlkOk X.N X.env.scope scope own) (hp : POk X.K gt sl p)
    (hg : ∀ (s : Shared) (H : Hp) (C : Addr) (cl : List (Str × Addr)) (fp : List Addr), PG (X.blk s H scope (compEnvC scope cl C X.env) fp) tg gt)
    (ht : ∀ (s : Shared) (H : Hp) (C : Addr) (cl : List (Str × Addr)) (fp : List Addr), JTs (X.blk s H scope (compEnvC scope cl C X.env) fp) ifs mt)
    (he : ∀ (s : Shared) (H : Hp) (C : Addr) (cl : List (Str × Addr)) (fp : List Addr), JE (X.blk s H scope (compEnvC scope cl C X.env) fp) E00 elt me)
    (hsl : ∀ i ∈ sl, i ∈ own.map (·.2)) (hs : ∀ x, foldedSetIterable iter X.env x = pure x := by intro _; rfl) :
    JF X E (.ListComp elt [⟨tg, iter, ifs, 0⟩] scope pos) (fLc mi p mt me (own.map (·.2))) :=
  ⟨weakE (pe_lc hc hN hi.pi ok hg (fun s H C cl fp => (ht s H C cl fp).pt) (fun s H C cl fp => (he s H C cl fp).pe) hs)
    (tlc_of (fun _ _ _ h => h) hp hsl (fun _ _ _ h => h) fun _ _ _ h => h)⟩
end
end Dg

namespace Dg
open PySem PySem.Spec PyProof.Rows L2
inductive So where
  | nx (env : Ev) (S : Sto) | rt (d : D) (S : Sto) | bk (env : Ev) (S : Sto) | ct (env : Ev) (S : Sto) | rs (x : Ex) (env : Ev) (S : Sto) | bad
abbrev SM := Ev → Sto → So
def ResS (o : So) (nx : Ev → Sto → Prop) (rt : D → Sto → Prop) (bk ct : Ev → Sto → Prop) (rs : Ex → Ev → Sto → Prop) : Prop := match o with
  | .nx env S => nx env S
  | .rt d S => rt d S
  | .bk env S => bk env S
  | .ct env S => ct env S
  | .rs x env S => rs x env S
  | .bad => False
theorem ResS.mono {o : So} {nx nx' : Ev → Sto → Prop} {rt rt' : D → Sto → Prop} {bk bk' ct ct' : Ev → Sto → Prop} {rs rs' : Ex → Ev → Sto → Prop} (h : ResS o nx rt bk ct rs)
    (h1 : ∀ e S, nx e S → nx' e S) (h2 : ∀ d S, rt d S → rt' d S) (h3 : ∀ e S, bk e S → bk' e S) (h4 : ∀ e S, ct e S → ct' e S) (h5 : ∀ x e S, rs x e S → rs' x e S) : ResS o nx' rt' bk' ct' rs' := by
  cases o with
  | nx env S => exact h1 _ _ h
  | rt d S => exact h2 _ _ h
  | bk env S => exact h3 _ _ h
  | ct env S => exact h4 _ _ h
  | rs x env S => exact h5 _ _ _ h
  | bad => exact h
/-- an exception out of a statement -/
def RXS (K : PySem.W.Frag) (E : WK) (L : Addr → Prop) (g : G) (H : Hp) (x : Ex) (env' : Ev) (S' : Sto) : Prop :=
  ∀ (σ' : Sg) (dx : Option Addr) H' g', Ext L g H (Lv σ' env') g' H' → SR K σ' H' env' S' g' → (∃ vs, RepF K g' vs x.fs ∧ match dx with | some a => H' a = some (.xd vs) ∧ H a = none ∧ g'.B a = none ∧ a ∉ g'.al | none => vs = []) → E σ' (.ref x.C) dx H'
def nxP (K : PySem.W.Frag) (L : Addr → Prop) (g : G) (H : Hp) (P : Sg → Hp → Prop) (env' : Ev) (S' : Sto) : Prop := ∀ σ' H' g', Ext L g H (Lv σ' env') g' H' → SR K σ' H' env' S' g' → P σ' H'
def rtP (K : PySem.W.Frag) (L : Addr → Prop) (g : G) (H : Hp) (P : VK) (d : D) (S' : Sto) : Prop := ∀ v H' g', Ext L g H NoL g' H' → SRm K H' S' g' → Rep K g' v d → P v H'
def tS (K : PySem.W.Frag) (E : WK) (m : SM) : TS := fun Dn σ H => ∃ env S g, SR K σ H env S g ∧ ResS (m env S) (nxP K (Lv σ env) g H Dn.nx) (rtP K (Lv σ env) g H Dn.rt) (nxP K (Lv σ env) g H Dn.bk) (nxP K (Lv σ env) g H Dn.ct) (RXS K E (Lv σ env) g H)
structure JS (X : Cx) (E : WK) (st : Stmt) (m : SM) : Prop where
  ps : PS X st (tS X.K E m)
structure JB (X : Cx) (E : WK) (st : List Stmt) (m : SM) : Prop where
  pb : PSs X st (tS X.K E m)
theorem weakS {X : Cx} {st : Stmt} {t t' : TS} (h : PS X st t) (i : ∀ Dn σ H, t' Dn σ H → t Dn σ H) : PS X st t' := ⟨fun pins s σ H Dn I q => h.run pins s σ H Dn I (i _ _ _ q)⟩
theorem weakB {X : Cx} {st : List Stmt} {t t' : TS} (h : PSs X st t) (i : ∀ Dn σ H, t' Dn σ H → t Dn σ H) : PSs X st t' := ⟨fun pins s σ H Dn I q => h.run pins s σ H Dn I (i _ _ _ q)⟩
theorem nxP.step {K : PySem.W.Frag} {L L1 : Addr → Prop} {g g1 : G} {H H1 : Hp} {P : Sg → Hp → Prop} {env : Ev} {S : Sto} (h : nxP K L g H P env S) (e : Ext L g H L1 g1 H1) : nxP K L1 g1 H1 P env S := fun σ' H' g' e' s => h σ' H' g' (e.trans e') s
theorem rtP.step {K : PySem.W.Frag} {L L1 : Addr → Prop} {g g1 : G} {H H1 : Hp} {P : VK} {d : D} {S : Sto} (h : rtP K L g H P d S) (e : Ext L g H L1 g1 H1) : rtP K L1 g1 H1 P d S := fun σ' H' g' e' s => h σ' H' g' (e.trans e') s
theorem RXS.step {K : PySem.W.Frag} {E : WK} {L L1 : Addr → Prop} {g g1 : G} {H H1 : Hp} {x : Ex} {env : Ev} {S : Sto} (h : RXS K E L g H x env S) (e : Ext L g H L1 g1 H1) : RXS K E L1 g1 H1 x env S := fun σ' dx H' g' e' s ⟨vs, r, q⟩ => h σ' dx H' g' (e.trans e') s ⟨vs, r, by
  cases dx with
  | none => exact q
  | some a => exact ⟨q.1, e.dom a q.2.1, q.2.2⟩⟩
/-- an expression's exception is its statement's -/
theorem RXS.ex {K : PySem.W.Frag} {E : WK} {σ : Sg} {g : G} {H : Hp} {x : Ex} {env : Ev} {S S0 : Sto} (h : RXS K E (Lv σ env) g H x env S) (sr : SR K σ H env S0 g) : RX K (E σ) NoL g H x S := fun dx H' g' e m q => h σ dx H' g' e.lift (sr.step e m) q
theorem ResS.step {K : PySem.W.Frag} {E : WK} {L L1 : Addr → Prop} {g g1 : G} {H H1 : Hp} {Dn : Ends} {o : So} (h : ResS o (nxP K L g H Dn.nx) (rtP K L g H Dn.rt) (nxP K L g H Dn.bk) (nxP K L g H Dn.ct) (RXS K E L g H)) (e : Ext L g H L1 g1 H1) :
    ResS o (nxP K L1 g1 H1 Dn.nx) (rtP K L1 g1 H1 Dn.rt) (nxP K L1 g1 H1 Dn.bk) (nxP K L1 g1 H1 Dn.ct) (RXS K E L1 g1 H1) :=
  h.mono (fun _ _ q => q.step e) (fun _ _ q => q.step e) (fun _ _ q => q.step e) (fun _ _ q => q.step e) fun _ _ _ q => q.step e
def sSeq (a b : SM) : SM := fun env S => match a env S with
  | .nx env1 S1 => b env1 S1
  | o => o
def sSkip : SM := fun env S => .nx env S
/-- an expression, then what follows its value -/
def sBind {α : Type} (m : Ev → Sto → Out α) (k : α → SM) : SM := fun env S => match m env S with
  | .ok a S' => k a env S'
  | .raise x S' => .rs x env S'
  | .bad => .bad
theorem ResS.bindX {α : Type} {m : Ev → Sto → Out α} {k : α → SM} {env : Ev} {S : Sto} {nx : Ev → Sto → Prop} {rt : D → Sto → Prop} {bk ct : Ev → Sto → Prop} {rs : Ex → Ev → Sto → Prop} (h : ResS (sBind m k env S) nx rt bk ct rs) :
    Res (m env S) (fun a S' => ResS (k a env S') nx rt bk ct rs) (fun x S' => rs x env S') := by
  unfold sBind at h
  cases hm : m env S <;> rw [hm] at h <;> exact h
section
variable {X : Cx} {E : WK} {st : Stmt} {sts : List Stmt} {e : Expr} {m m1 m2 : SM} {ma : EM} {mt : TM} {pos : Pos}
theorem jb_nil : JB X E [] sSkip := ⟨weakB pss_nil fun Dn σ H ⟨env, S, g, sr, q⟩ => q σ H g Ext.refl sr⟩
theorem jb_one (h : JS X E st m) : JB X E [st] m := ⟨pss_one h.ps⟩
theorem jb_cons (h1 : JS X E st m1) (h2 : JB X E sts m2) : JB X E (st :: sts) (sSeq m1 m2) := ⟨weakB (pss_cons h1.ps h2.pb) fun Dn σ H ⟨env, S, g, sr, q⟩ => by
  refine ⟨env, S, g, sr, ?_⟩
  unfold sSeq at q
  cases hm : m1 env S with
  | nx env1 S1 =>
    rw [hm] at q
    exact fun σ1 H1 g1 x1 s1 => ⟨env1, S1, g1, s1, q.step x1⟩
  | rt d S1 => rw [hm] at q; exact q
  | bk env1 S1 => rw [hm] at q; exact q
  | ct env1 S1 => rw [hm] at q; exact q
  | rs x env1 S1 => rw [hm] at q; exact q
  | bad => rw [hm] at q; exact q⟩
def sRet (m : EM) : SM := sBind m fun d _ S => .rt d S
def sRetN : SM := fun _ S => .rt .non S
def sDrop (m : EM) : SM := sBind m fun _ env S => .nx env S
def sIf (t : TM) (a b : SM) : SM := sBind t fun c env S => match c with | true => a env S | false => b env S
def sBrk : SM := fun env S => .bk env S
def sCnt : SM := fun env S => .ct env S
theorem js_ret (h : JE X E e ma) : JS X E (.Return (some e) pos) (sRet ma) := ⟨weakS (ps_ret h.pe) fun Dn σ H ⟨env, S, g, sr, q⟩ =>
  ⟨env, S, g, sr, q.bindX.mono (fun d S1 q1 v H1 g1 x1 m1 r1 => q1 v H1 g1 x1.lift0 m1 r1) fun _ _ h => h.ex sr⟩⟩
theorem js_retN : JS X E (.Return none pos) sRetN := ⟨weakS ps_retN fun Dn σ H ⟨env, S, g, sr, q⟩ => q .non H g (Ext.lift0 Ext.refl) sr.m .non⟩
theorem js_pass : JS X E (.Pass pos) sSkip := ⟨weakS ps_pass fun Dn σ H ⟨env, S, g, sr, q⟩ => q σ H g Ext.refl sr⟩
theorem js_brk : JS X E (.Break pos) sBrk := ⟨weakS ps_break fun Dn σ H ⟨env, S, g, sr, q⟩ => q σ H g Ext.refl sr⟩
theorem js_cnt : JS X E (.Continue pos) sCnt := ⟨weakS ps_continue fun Dn σ H ⟨env, S, g, sr, q⟩ => q σ H g Ext.refl sr⟩
theorem js_drop (h : JE X E e ma) (hs : swapsWith e none pos.line X.env = pure false := by rfl) : JS X E (.Expr e pos) (sDrop ma) := ⟨weakS (ps_expr h.pe hs) fun Dn σ H ⟨env, S, g, sr, q⟩ =>
  ⟨env, S, g, sr, q.bindX.mono (fun d S1 q1 v H1 g1 x1 m1 r1 => q1 σ H1 g1 x1.lift (sr.step x1 m1)) fun _ _ h => h.ex sr⟩⟩
theorem js_if {a b : List Stmt} (hc : JT X E e mt) (ha : JB X E a m1) (hb : JB X E b m2) : JS X E (.If e a b pos) (sIf mt m1 m2) := ⟨weakS (ps_if hc.pt ha.pb hb.pb) fun Dn σ H ⟨env, S, g, sr, q⟩ =>
  ⟨env, S, g, sr, q.bindX.mono (fun c S1 q1 H1 g1 x1 m1 => by
    cases c with
    | true => exact iteT ⟨env, S1, g1, sr.step x1 m1, ResS.step q1 x1.lift⟩
    | false => exact iteF ⟨env, S1, g1, sr.step x1 m1, ResS.step q1 x1.lift⟩) fun _ _ h => h.ex sr⟩⟩
/-! ### values and owned lists that are stored -/
/-- a value v as it is to be stored -/
def VR (K : PySem.W.Frag) (H0 : Hp) (g : G) (H : Hp) (v : V) : Slot → Prop
  | .no => False
  | .val d => Rep K g v d
  | .live o => ∃ a, v = .ref a ∧ H0 a = none ∧ g.B a = none ∧ a ∉ g.al ∧ MRep K g H a o
theorem VR.step {K : PySem.W.Frag} {H0 : Hp} {g g' : G} {H H' : Hp} {v : V} {s : Slot} (h : VR K H0 g H v s) (x : ExE g H g' H') : VR K H0 g' H' v s := by
  cases s with
  | no => exact h
  | val d => exact Rep.mono x.le h
  | live o =>
    obtain ⟨a, e, h0, hB, hA, r⟩ := h
    obtain ⟨u, hu⟩ := r.some
    have ne : H a ≠ none := fun z => by rw [hu] at z; cases z
    refine ⟨a, e, h0, ?_, fun z => (x.fA a z).elim hA ne, r.mono x.le fun u q => x.kp a u q hA fun z => z⟩
    cases hb : g'.B a with
    | none => rfl
    | some o => exact ((x.fB a o hb hB).elim False.elim ne).elim
abbrev LSM := Ev → Sto → Out Slot
abbrev LSsM := Ev → Sto → Out (List Slot)
def tV (K : PySem.W.Frag) (E : WK) (m : LSM) : TE := fun σ H Q => ∃ env S g, SR K σ H env S g ∧ Res (m env S) (fun s S' => ∀ v H' g', ExE g H g' H' → SRm K H' S' g' → VR K H g' H' v s → Q v H') fun x S' => RX K (E σ) NoL g H x S'
structure JV (X : Cx) (E : WK) (e : Expr) (m : LSM) : Prop where
  pe : PE X e (tV X.K E m)
def vE (m : EM) : LSM := fun env S => (m env S).bind fun d S' => .ok (.val d) S'
def vF (m : AM) : LSM := fun env S => (m env S).bind fun ds S' => .ok (.live (.lst ds)) S'
theorem jv_e (h : JE X E e ma) : JV X E e (vE ma) := ⟨weakE h.pe fun σ H Q ⟨env, S, g, sr, q⟩ => ⟨env, S, g, sr, q.bind.mono (fun d S1 q1 v H1 g1 x1 m1 r1 => q1 v H1 g1 x1 m1 r1) fun _ _ h => h⟩⟩
theorem jv_f {mr : AM} (h : JF X E e mr) : JV X E e (vF mr) := ⟨weakE h.pe fun σ H Q ⟨env, S, g, sr, q⟩ => ⟨env, S, g, sr, q.bind.mono (fun d S1 q1 a vs H1 g1 x1 m1 h1 h0 hB hA r1 => q1 _ H1 g1 x1 m1 ⟨a, rfl, h0, hB, hA, vs, h1, r1⟩) fun _ _ h => h⟩⟩
/-- slots stored -/
def setS (i : Nat) (s : Slot) (env : Ev) : Option Ev := if i < env.length then some (env.set i s) else none
theorem SR.putS {K : PySem.W.Frag} {σ : Sg} {H : Hp} {env env' : Ev} {S : Sto} {g : G} {i : Nat} {v : V} {s : Slot} {H0 : Hp} (sr : SR K σ H env S g) (r : VR K H0 g H v s) (hn : ∀ a, H0 a = none → ¬ Lv σ env a) (h : setS i s env = some env') :
    SR K (σ.set i (some v)) H env' S g ∧ (∀ a, Lv (σ.set i (some v)) env' a → Lv σ env a ∨ H0 a = none) := by
  unfold setS at h
  split at h
  · rename_i hi
    cases h
    have hiσ : i < σ.length := by rw [sr.len]; exact hi
    have live_of : ∀ (j : Nat) o, (env.set i s)[j]? = some (.live o) → (j = i ∧ s = .live o) ∨ (j ≠ i ∧ env[j]? = some (.live o)) := fun j o e => by
      by_cases q : j = i
      · subst q
        rw [List.getElem?_set_self hi] at e
        exact .inl ⟨rfl, Option.some.inj e⟩
      · rw [List.getElem?_set_ne (Ne.symm q)] at e
        exact .inr ⟨q, e⟩
    refine ⟨⟨sr.m, by simp [sr.len], fun j d' e => ?_, fun j o e => ?_, fun j k o o' a hjk e1 e2 e3 e4 => ?_⟩, fun a ⟨j, o, e1, e2⟩ => ?_⟩
    · by_cases q : j = i
      · subst q
        rw [List.getElem?_set_self hi] at e
        cases e
        exact ⟨v, by rw [List.getElem?_set_self hiσ], r⟩
      · rw [List.getElem?_set_ne (Ne.symm q)] at e ⊢
        exact sr.val j d' e
    · rcases live_of j o e with ⟨rfl, rfl⟩ | ⟨q, e'⟩
      · obtain ⟨a, rfl, h0, hB, hA, r2⟩ := r
        exact ⟨a, by rw [List.getElem?_set_self hiσ], hB, hA, r2⟩
      · rw [List.getElem?_set_ne (Ne.symm q)]
        exact sr.lv j o e'
    · rcases live_of j o e1 with ⟨rfl, rfl⟩ | ⟨q1, e1'⟩
      · rcases live_of k o' e2 with ⟨rfl, _⟩ | ⟨q2, e2'⟩
        · exact hjk rfl
        · obtain ⟨a', rfl, h0, hB, hA, r2⟩ := r
          rw [List.getElem?_set_self hiσ] at e3
          cases e3
          rw [List.getElem?_set_ne (Ne.symm q2)] at e4
          exact hn _ h0 ⟨k, o', e2', e4⟩
      · rw [List.getElem?_set_ne (Ne.symm q1)] at e3
        rcases live_of k o' e2 with ⟨rfl, rfl⟩ | ⟨q2, e2'⟩
        · obtain ⟨a', rfl, h0, hB, hA, r2⟩ := r
          rw [List.getElem?_set_self hiσ] at e4
          cases e4
          exact hn _ h0 ⟨j, o, e1', e3⟩
        · rw [List.getElem?_set_ne (Ne.symm q2)] at e4
          exact sr.lnd j k o o' a hjk e1' e2' e3 e4
    · rcases live_of j o e1 with ⟨rfl, rfl⟩ | ⟨q1, e1'⟩
      · obtain ⟨a', rfl, h0, hB, hA, r2⟩ := r
        rw [List.getElem?_set_self hiσ] at e2
        cases e2
        exact .inr h0
      · rw [List.getElem?_set_ne (Ne.symm q1)] at e2
        exact .inl ⟨j, o, e1', e2⟩
  · cases h
/-- where owned lists stand there is something -/
theorem SR.lvSome {K : PySem.W.Frag} {σ : Sg} {H : Hp} {env : Ev} {S : Sto} {g : G} (sr : SR K σ H env S g) {a : Addr} (h : H a = none) : ¬ Lv σ env a := fun ⟨i, o, e1, e2⟩ => by
  obtain ⟨a', e3, _, _, r⟩ := sr.lv i o e1
  rw [e2] at e3
  cases e3
  obtain ⟨u, hu⟩ := r.some
  rw [h] at hu
  cases hu
/-- a step and a store -/
theorem Ext.put {L L' : Addr → Prop} {g g1 : G} {H H1 : Hp} (x : ExE g H g1 H1) (h : ∀ a, L' a → L a ∨ H a = none) : Ext L g H L' g1 H1 :=
  ⟨x.le, fun a o h n _ => x.kp a o h n (fun z => z), x.dom, fun a o h n => (x.fB a o h n).elim False.elim .inr, x.fA, h⟩
def ofS (o : Option Ev) (S : Sto) : So := match o with | some env => .nx env S | none => .bad
theorem ResS.ofS {o : Option Ev} {S : Sto} {nx : Ev → Sto → Prop} {rt : D → Sto → Prop} {bk ct : Ev → Sto → Prop} {rs : Ex → Ev → Sto → Prop} (h : ResS (Dg.ofS o S) nx rt bk ct rs) : ∃ env, o = some env ∧ nx env S := by
  cases o with
  | none => exact h.elim
  | some env => exact ⟨env, rfl, h⟩
def sSet (i : Nat) (m : LSM) : SM := sBind m fun s env S => ofS (setS i s env) S
theorem tasg_of {te : TE} {mv : LSM} {i : Nat} (h : ∀ σ H Q, tV X.K E mv σ H Q → te σ H Q) : ∀ Dn σ H, tS X.K E (sSet i mv) Dn σ H → tAsg te (gName i) Dn σ H := fun Dn σ H ⟨env, S, g, sr, q⟩ =>
  h σ H _ ⟨env, S, g, sr, q.bindX.mono (fun s S1 q1 v H1 g1 x1 m1 r1 => by
    obtain ⟨env', he, q2⟩ := q1.ofS
    obtain ⟨s2, l2⟩ := (sr.step x1 m1).putS r1 (fun a => sr.lvSome) he
    exact q2 _ H1 g1 (x1.put l2) s2) fun _ _ h => h.ex sr⟩
theorem js_set {i : Nat} {x : Str} {pos' : Pos} {mv : LSM} (hN : X.N.Nodup) (hi : X.N[i]? = some x) (hx : Loc X.env.scope x) (he : JV X E e mv) (hs : swapsWith e (some (.Name x pos')) pos.line X.env = pure false := by rfl)
    (hf : X.fn x = true ∨ X.env.scope.names.lookup x = some .local := by first | exact .inl rfl | exact .inr rfl | assumption) : JS X E (.Assign [.Name x pos'] e pos) (sSet i mv) :=
  ⟨weakS (ps_set hN hi hx he.pe hs hf) (tasg_of fun _ _ _ h => h)⟩
/-! a pattern -/
def sPat (p : PM) (m : EM) : SM := sBind m fun d env S => ofS (p d env) S
theorem js_pat {tg : Expr} {gt : TG} {sl : List Nat} {p : PM} (he : JE X E e ma) (hg : PG X tg gt) (hp : POk X.K gt sl p) (hs : swapsWithSole [tg] e pos.line X.env = pure false := by rfl) (hw : swappedStores [tg] e X.env = pure none := by rfl)
    (h1 : (assignEach [tg] X.env).map (·.2) = [assign tg X.env] := by rfl) : JS X E (.Assign [tg] e pos) (sPat p ma) := ⟨weakS (ps_asg he.pe hg hs hw h1) fun Dn σ H ⟨env, S, g, sr, q⟩ =>
  ⟨env, S, g, sr, q.bindX.mono (fun d S1 q1 v H1 g1 x1 m1 r1 => by
    obtain ⟨env', he, q2⟩ := q1.ofS
    exact hp σ H1 env S1 g1 v d env' _ (sr.step x1 m1) r1 he fun σ' s' l' _ _ => q2 σ' H1 g1 (x1.put fun a z => .inl (l' a z)) s') fun _ _ h => h.ex sr⟩⟩
end
end Dg

namespace Dg
open PySem PySem.Spec PyProof.Rows L2
/-! ### loops -/
def forLoop (p : PM) (b : SM) : List D → Ev → Sto → So
  | [], env, S => .nx env S
  | d :: ds, env, S => match p d env with
    | none => .bad
    | some env1 => match b env1 S with
      | .nx env2 S2 => forLoop p b ds env2 S2
      | .ct env2 S2 => forLoop p b ds env2 S2
      | .bk env2 S2 => .nx env2 S2
      | .rt d S2 => .rt d S2
      | .rs x env2 S2 => .rs x env2 S2
      | .bad => .bad
def sFor (m : AM) (p : PM) (b : SM) : SM := sBind m fun ds env S => forLoop p b ds env S
def whLoop (t : TM) (b : SM) : Nat → Ev → Sto → So
  | 0, _, _ => .bad
  | n + 1, env, S => match t env S with
    | .bad => .bad
    | .raise x S1 => .rs x env S1
    | .ok false S1 => .nx env S1
    | .ok true S1 => match b env S1 with
      | .nx env2 S2 => whLoop t b n env2 S2
      | .ct env2 S2 => whLoop t b n env2 S2
      | .bk env2 S2 => .nx env2 S2
      | .rt d S2 => .rt d S2
      | .rs x env2 S2 => .rs x env2 S2
      | .bad => .bad
section
variable {X : Cx} {E : WK} {e tg iter : Expr} {body : List Stmt} {mi : AM} {p : PM} {mb : SM} {mt : TM} {gt : TG} {sl : List Nat} {pos : Pos} {ma : EM}
theorem js_for (hp : PassesOwn (model X.prog X.w) X.A X.env X.xe) (hc : X.calm = true) (hi : JI X E tg iter mi) (hg : PG X tg gt) (hk : POk X.K gt sl p) (hb : JB X E body mb) (hs : ∀ x, foldedSetIterable iter X.env x = pure x := by intro _; rfl) : JS X E (.For tg iter body [] pos) (sFor mi p mb) :=
  ⟨weakS (ps_for hp hc hi.pi hg hb.pb (hs := hs)) fun Dn σ H ⟨env, S, g, sr, q⟩ => ⟨env, S, g, sr, q.bindX.mono (fun ds S1 q1 J H1 g1 x1 m1 it => by
    refine ⟨fun i m σ' H' => m = ds.length - i ∧ i ≤ ds.length ∧ ∃ (env' : Ev) (S' : Sto) (g' : G), Ext (Lv σ env) g H (Lv σ' env') g' H' ∧ Le g1 g' ∧ SR X.K σ' H' env' S' g' ∧
      ResS (forLoop p mb (ds.drop i) env' S') (nxP X.K (Lv σ' env') g' H' Dn.nx) (rtP X.K (Lv σ' env') g' H' Dn.rt) (nxP X.K (Lv σ' env') g' H' Dn.bk) (nxP X.K (Lv σ' env') g' H' Dn.ct) (RXS X.K E (Lv σ' env') g' H'),
      ⟨_, rfl, Nat.zero_le _, env, S1, g1, x1.lift, Le.refl _, sr.step x1 m1, ResS.step q1 x1.lift⟩, ?_⟩
    rintro i m σ' H' ⟨rfl, hi, env', S', g', x2, l2, s2, q2⟩
    obtain ⟨itG, itS⟩ := it H' S' g' l2 s2.m
    by_cases hlt : i < ds.length
    · obtain ⟨hgo, hy⟩ := itG i ds[i] (by simp [hlt])
      rw [List.drop_eq_getElem_cons hlt] at q2
      unfold forLoop at q2
      refine .inr ⟨hgo, fun σ3 H3 => ∃ (env' : Ev) (S' : Sto) (g' : G), Ext (Lv σ env) g H (Lv σ3 env') g' H3 ∧ Le g1 g' ∧ SR X.K σ3 H3 env' S' g' ∧
        ResS (forLoop p mb (ds.drop (i + 1)) env' S') (nxP X.K (Lv σ3 env') g' H3 Dn.nx) (rtP X.K (Lv σ3 env') g' H3 Dn.rt) (nxP X.K (Lv σ3 env') g' H3 Dn.bk) (nxP X.K (Lv σ3 env') g' H3 Dn.ct) (RXS X.K E (Lv σ3 env') g' H3),
        fun σ3 H3 hN => ⟨ds.length - (i + 1), by omega, rfl, hlt, hN⟩, fun v H3 hv => ?_⟩
      obtain ⟨g3, x3, m3, r3⟩ := hy v H3 hv
      cases hp1 : p ds[i] env' with
      | none => simp only [hp1] at q2; exact q2.elim
      | some env1 =>
        simp only [hp1] at q2
        refine hk σ' H3 env' S' g3 v _ env1 _ (s2.step x3 m3) r3 hp1 fun σ4 s4 l4 _ _ => ?_
        have x4 : Ext (Lv σ' env') g' H' (Lv σ4 env1) g3 H3 := x3.put fun a z => .inl (l4 a z)
        refine ⟨env1, S', g3, s4, ?_⟩
        cases hb1 : mb env1 S' with
        | nx env2 S2 =>
          simp only [hb1] at q2
          exact fun σ5 H5 g5 x5 s5 => ⟨env2, S2, g5, (x2.trans x4).trans x5, (l2.trans x3.le).trans x5.le, s5, ResS.step q2 (x4.trans x5)⟩
        | ct env2 S2 =>
          simp only [hb1] at q2
          exact fun σ5 H5 g5 x5 s5 => ⟨env2, S2, g5, (x2.trans x4).trans x5, (l2.trans x3.le).trans x5.le, s5, ResS.step q2 (x4.trans x5)⟩
        | bk env2 S2 =>
          simp only [hb1] at q2
          exact nxP.step q2 x4
        | rt d S2 =>
          simp only [hb1] at q2
          exact rtP.step q2 x4
        | rs x env2 S2 =>
          simp only [hb1] at q2
          exact RXS.step q2 x4
        | bad => simp only [hb1] at q2; exact q2.elim
    · have ei : i = ds.length := by omega
      subst ei
      rw [List.drop_length] at q2
      unfold forLoop at q2
      exact .inl ⟨itS, q2 σ' H' g' Ext.refl s2⟩) fun _ _ h => h.ex sr⟩⟩
theorem js_while (n : Nat) (hp : PassesOwn (model X.prog X.w) X.A X.env X.xe) (ht : JT X E e mt) (hb : JB X E body mb) : JS X E (.While e body [] pos) (fun env S => whLoop mt mb n env S) :=
  ⟨weakS (ps_while hp ht.pt hb.pb) fun Dn σ H ⟨env, S, g, sr, q⟩ => by
    refine ⟨fun m σ' H' => ∃ (env' : Ev) (S' : Sto) (g' : G), Ext (Lv σ env) g H (Lv σ' env') g' H' ∧ SR X.K σ' H' env' S' g' ∧
      ResS (whLoop mt mb m env' S') (nxP X.K (Lv σ' env') g' H' Dn.nx) (rtP X.K (Lv σ' env') g' H' Dn.rt) (nxP X.K (Lv σ' env') g' H' Dn.bk) (nxP X.K (Lv σ' env') g' H' Dn.ct) (RXS X.K E (Lv σ' env') g' H'),
      ⟨n, env, S, g, Ext.refl, sr, q⟩, ?_⟩
    rintro m σ' H' ⟨env', S', g', x2, s2, q2⟩
    cases m with
    | zero => unfold whLoop at q2; exact q2.elim
    | succ m =>
      unfold whLoop at q2
      refine ⟨env', S', g', s2, ?_⟩
      cases ht1 : mt env' S' with
      | bad => simp only [ht1] at q2; exact q2.elim
      | raise x S1 => simp only [ht1] at q2; exact RXS.ex q2 s2
      | ok b S1 =>
        simp only [ht1] at q2
        intro H3 g3 x3 m3
        cases b with
        | false =>
          refine iteF ?_
          exact q2 σ' H3 g3 x3.lift (s2.step x3 m3)
        | true =>
          refine iteT ⟨fun σ5 H5 => ∃ (env' : Ev) (S' : Sto) (g' : G), Ext (Lv σ env) g H (Lv σ5 env') g' H5 ∧ SR X.K σ5 H5 env' S' g' ∧
            ResS (whLoop mt mb m env' S') (nxP X.K (Lv σ5 env') g' H5 Dn.nx) (rtP X.K (Lv σ5 env') g' H5 Dn.rt) (nxP X.K (Lv σ5 env') g' H5 Dn.bk) (nxP X.K (Lv σ5 env') g' H5 Dn.ct) (RXS X.K E (Lv σ5 env') g' H5),
            fun σ5 H5 hN => ⟨m, Nat.lt_succ_self m, hN⟩, env', S1, g3, s2.step x3 m3, ?_⟩
          have x4 : Ext (Lv σ' env') g' H' (Lv σ' env') g3 H3 := x3.lift
          cases hb1 : mb env' S1 with
          | nx env2 S2 =>
            simp only [hb1] at q2
            exact fun σ5 H5 g5 x5 s5 => ⟨env2, S2, g5, (x2.trans x4).trans x5, s5, ResS.step q2 (x4.trans x5)⟩
          | ct env2 S2 =>
            simp only [hb1] at q2
            exact fun σ5 H5 g5 x5 s5 => ⟨env2, S2, g5, (x2.trans x4).trans x5, s5, ResS.step q2 (x4.trans x5)⟩
          | bk env2 S2 =>
            simp only [hb1] at q2
            exact nxP.step q2 x4
          | rt d S2 =>
            simp only [hb1] at q2
            exact rtP.step q2 x4
          | rs x env2 S2 =>
            simp only [hb1] at q2
            exact RXS.step q2 x4
          | bad => simp only [hb1] at q2; exact q2.elim⟩
end
/-! ### defs and calls -/
/-- a mirror's promise: n parameters -/
def spM (K : PySem.W.Frag) (n : Nat) (f : List D → Sto → Out D) : Sp := fun vs H Q E => ∃ (ds : List D) (S : Sto) (g : G), SRm K H S g ∧ Reps K g vs ds ∧ ds.length = n ∧ Res (f ds S) (fun d S' => ∀ v H' g', ExE g H g' H' → SRm K H' S' g' → Rep K g' v d → Q v H') fun x S' => RX K E NoL g H x S'
def retO (o : So) : Out D := match o with
  | .nx _ S => .ok .non S
  | .rt d S => .ok d S
  | .rs x _ S => .raise x S
  | _ => .bad
def runM (n : Nat) (m : SM) : List D → Sto → Out D := fun ds S => retO (m (ds.map Slot.val ++ List.replicate (n - ds.length) Slot.no) S)
theorem sr_start {K : PySem.W.Frag} {N : List Str} {H : Hp} {S : Sto} {g : G} {vs : List V} {ds : List D} (m : SRm K H S g) (r : Reps K g vs ds) : SR K (L2.start N vs) H (ds.map Slot.val ++ List.replicate (N.length - ds.length) Slot.no) S g ∧ ∀ a, ¬ Lv (L2.start N vs) (ds.map Slot.val ++ List.replicate (N.length - ds.length) Slot.no) a := by
  have nolive : ∀ (i : Nat) o, (ds.map Slot.val ++ List.replicate (N.length - ds.length) Slot.no)[i]? ≠ some (.live o) := fun i o e => by
    have hm := List.mem_of_getElem? e
    rcases List.mem_append.mp hm with h | h
    · obtain ⟨d, _, q⟩ := List.mem_map.mp h
      cases q
    · cases (List.mem_replicate.mp h).2
  refine ⟨⟨m, ?_, fun i d e => ?_, fun i o e => (nolive i o e).elim, fun i j o o' a _ e _ => (nolive i o e).elim⟩, fun a ⟨i, o, e, _⟩ => nolive i o e⟩
  · unfold L2.start
    simp only [List.length_append, List.length_map, List.length_replicate, r.length]
  · by_cases hi : i < ds.length
    · rw [List.getElem?_append_left (by simpa using hi), List.getElem?_map] at e
      cases h1 : ds[i]? with
      | none => rw [h1] at e; cases e
      | some d' =>
        rw [h1] at e
        cases e
        obtain ⟨v, e1, r1⟩ := r.at h1
        refine ⟨v, ?_, r1⟩
        unfold L2.start
        rw [List.getElem?_append_left (by rw [List.length_map, r.length]; exact hi), List.getElem?_map, e1]
        rfl
    · rw [List.getElem?_append_right (by simpa using hi)] at e
      have hm := List.mem_of_getElem? e
      cases (List.mem_replicate.mp hm).2
section
variable {P : Program} {w : World} {K : PySem.W.Frag} {mg : Str → Option Value} {base : Heap}
/-- a def by its body -/
theorem okM {x qual : Str} {st : Stmt} {f : Addr} {fd : FuncData} {N ps : List Str} {k n : Nat} {m : SM} (F : Fun K x qual st f fd) (Sc : FnScope N ps (defScope st)) (hn : N.length = n)
    (hb : ∀ (cdv : Value) (A : Around) (outer : List Env) (s : Shared) (H : Hp) (E : XK), Room k (A.deeper (envOfC qual (defScope st) s.heap.objs.size f cdv)) →
      JB (cxOf (L2.CX P w) P w K mg base N qual (defScope st) f cdv A outer s H E) (fun _ => E) (defBody st) m) : FnOk P w K mg base (L2.CX P w) (k + 1) f fd ps (spM K ps.length (runM n m)) := by
  refine F.okX Sc (fun vs H Q E ⟨ds, S, g, m, r, hl, _⟩ => by rw [r.length, hl]) fun cdv A outer s H vs Q E hr ⟨ds, S, g, sm, r, hl, q⟩ => ?_
  refine ⟨_, (hb cdv A outer s H E hr).pb, ?_⟩
  obtain ⟨sr, nl⟩ := sr_start (N := N) sm r
  rw [hn] at sr nl
  refine ⟨_, S, g, sr, ?_⟩
  have toE : ∀ {L' : Addr → Prop} {g' : G} {H' : Hp}, Ext (Lv (L2.start N vs) (ds.map Slot.val ++ List.replicate (n - ds.length) Slot.no)) g H L' g' H' → ExE g H g' H' := fun {L' g' H'} x =>
    ⟨x.le, fun a o h n _ => x.kp a o h n (nl a), x.dom, fun a o h n => (x.fB a o h n).elim (fun z => (nl a z).elim) .inr, x.fA, fun _ h => h.elim⟩
  unfold runM at q
  cases ho : m (ds.map Slot.val ++ List.replicate (n - ds.length) Slot.no) S with
  | nx env' S' =>
    rw [ho] at q
    exact fun σ' H' g' x' s' => q .non H' g' (toE x') s'.m .non
  | rt d S' =>
    rw [ho] at q
    exact fun v H' g' x' m' r' => q v H' g' (toE x') m' r'
  | rs x env' S' =>
    rw [ho] at q
    exact fun σ' dx H' g' x' s' h => q dx H' g' (toE x') s'.m h
  | bk _ _ => rw [ho] at q; exact q.elim
  | ct _ _ => rw [ho] at q; exact q.elim
  | bad => rw [ho] at q; exact q.elim
end
section
variable {X : Cx} {E : WK} {x : Str} {p pos : Pos} {e : Expr} {es : List Expr} {mr : AM} {k n : Nat} {f : Addr} {fd : FuncData} {ps : List Str} {fm : List D → Sto → Out D}
def eCall (n : Nat) (f : List D → Sto → Out D) (m : AM) : EM := fun env S => (m env S).bind fun ds S1 => ifO (ds.length == n) (f ds S1)
theorem je_call (F : FnOk X.prog X.w X.K X.mg X.base (L2.CX X.prog X.w) k f fd ps (spM X.K n fm)) (hr : Room k X.A) (hg : Gl X x) (hm : X.mg x = some (.ref f)) (hk : PySem.W.keepIn X.K (.ref f) = true) (hb : Binds X.K fd ps []) (hx : ∀ σ, PassesAt (L2.CX X.prog X.w) X σ (E σ))
    (ha : JA X E (e :: es) mr) (hdb : (x == ("__debug__" : Str)) = false := by decide) (he : starEach (e :: es) X.env = (false, eval e X.env) :: starEach es X.env := by rfl) (hpl : (backTo pos (starEach es X.env)).any (·.1) = false := by rfl) :
    JE X E (.Call (.Name x p) (e :: es) [] pos) (eCall n fm mr) := ⟨weakE (pe_callSD F hr hg hm hk hb .nil hx ha.pa hdb he hpl) fun σ H Q ⟨env, S, g, sr, q⟩ =>
  ⟨env, S, g, sr, q.bind.mono (fun ds S1 q1 vs H1 g1 x1 m1 r1 => by
    obtain ⟨hl, q2⟩ := q1.ifO
    refine ⟨ds, S1, g1, m1, by rw [List.append_nil]; exact r1, by simpa using hl, q2.mono (fun d S2 q3 v H' g' x' m' r' => q3 v H' g' (x1.trans x') m' r') fun _ _ h => h.step x1⟩) fun _ _ h => h⟩⟩
end
end Dg

namespace Dg
open PySem PySem.Spec PyProof.Rows L2
/-! ### t[::-1] of a tuple -/
section
variable {prog : Program} {w : World} {A : Around} {Ex : Value → Shared → Prop} {s : Shared}
theorem applied_rev {sl : Addr} {vs : Value} {n : Nat} {Q : Int × Int × Nat → Shared → Prop} (hs : s.heap.IsSliceOf sl .none .none vs) (ps : IsPart vs (some (-1)))
    (h : Q ((n : Int) - 1, -1, n) s) : wpAny (model prog w) A (Builtin.Slice.sliceApplied (.ref sl) (pure (n : Int))) Q Ex s := by
  obtain ⟨os, hos, _, hds⟩ := hs
  unfold Builtin.Slice.sliceApplied Builtin.Slice.sliceFields
  refine wpAny_bind ?_
  refine wpAny_bind (wpAny_field hos hds (x := Value.none) rfl ?_)
  refine wpAny_bind (wpAny_field hos hds (x := Value.none) rfl ?_)
  refine wpAny_bind (wpAny_field hos hds (x := vs) rfl ?_)
  refine wpAny_pure ?_
  refine wpAny_bind (HT.slicePart_ ps ?_)
  show wpAny _ _ (if ((-1 : Int) == 0) = true then _ else _) _ _ s
  rw [if_neg (by decide)]
  refine wpAny_bind (HT.slicePart_ .none (wpAny_bind (HT.slicePart_ .none (wpAny_bind (wpAny_pure ?_)))))
  have e : Builtin.Slice.sliceAdjust none none (-1) (n : Int) = ((n : Int) - 1, -1) := rfl
  have e2 : Builtin.Slice.slicePlaces ((n : Int) - 1) (-1) (-1) = n := by
    unfold Builtin.Slice.slicePlaces
    have h1 : ¬ ((-1 : Int) > 0) := by decide
    simp only [h1, if_false]
    have : (-(-1 : Int)) = 1 := rfl
    rw [this, Int.ediv_one]
    split <;> omega
  show wpAny _ _ (match Builtin.Slice.sliceAdjust none none (-1) (n : Int) with | (lo, hi) => pure (lo, (-1 : Int), Builtin.Slice.slicePlaces lo hi (-1))) _ _ _
  rw [e]
  show wpAny _ _ (pure ((n : Int) - 1, (-1 : Int), Builtin.Slice.slicePlaces ((n : Int) - 1) (-1) (-1))) _ _ _
  rw [e2]
  exact wpAny_pure h
theorem filterMap_same {α β : Type} {f g : α → Option β} : ∀ {l : List α}, (∀ m ∈ l, f m = g m) → l.filterMap f = l.filterMap g
  | [], _ => rfl
  | a :: l, h => by
    rw [List.filterMap_cons, List.filterMap_cons, h a List.mem_cons_self, filterMap_same fun m hm => h m (List.mem_cons_of_mem _ hm)]
theorem pick_rev (xs : Array Value) : ((List.range xs.size).filterMap fun (m : Nat) => xs[(((xs.size : Int) - 1) + (m : Int) * (-1)).toNat]?).toArray = xs.toList.reverse.toArray := by
  congr 1
  have h1 : ((List.range xs.size).filterMap fun (m : Nat) => xs[(((xs.size : Int) - 1) + (m : Int) * (-1)).toNat]?) = ((List.range xs.size).map fun k => xs.size - 1 - k).filterMap (xs[·]?) := by
    rw [List.filterMap_map]
    refine filterMap_same fun m hm => ?_
    have := List.mem_range.mp hm
    show xs[(((xs.size : Int) - 1) + (m : Int) * (-1)).toNat]? = xs[xs.size - 1 - m]?
    congr 1
    omega
  rw [h1, PySem.W.krv_range, List.filterMap_reverse, PySem.W.krv_all]
theorem getItem_tuple_rev {t sl : Addr} {items : Array Value} {vs : Value} {Q : Value → Shared → Prop} (ht : IsTup s.heap t items) (hs : s.heap.IsSliceOf sl .none .none vs) (ps : IsPart vs (some (-1)))
    (h : Q (.ref s.heap.objs.size) { s with heap := s.heap.push { cls := .type "tuple", data := .seq items.toList.reverse.toArray } }) (hsz : items.size ≤ sizeLine) : wpAny (model prog w) A (getItem (.ref t) (.ref sl)) Q Ex s := by
  have hok : sizeOk (.seq items.toList.reverse.toArray) := by
    show items.toList.reverse.toArray.size ≤ sizeLine
    simpa using hsz
  obtain ⟨os, hos, hcs, hds⟩ := id hs
  have hTs : s.TypeIs (.ref sl) "slice" := ⟨os, hos, hcs⟩
  unfold getItem
  try with_reducible refine wpAny_holding ?_
  first | refine wpAny_bind (wpAny_pure ?_) | skip
  refine wpAny_bind (wpAny_sequenceKey ht.typeIs (by decide) ?_)
  have mro := PyProof.Rows.slot_tuple_getitem
  refine wpAny_bind (wpAny_callSpecial?_slot (name := Str.ofString "__getitem__") ht.typeIs mro ?_)
  refine wpAny_call_entry mro ht.typeIs entry_tuple_getitem ?_ (args_tuple_getitem _ _)
  show wpAny _ _ (Builtin.Tuple.tupleItemsOf (.ref t) >>= _) _ _ s
  refine wpAny_bind (tupleItemsOf_ ht (wpAny_bind (wpAny_typeOf hTs ?_)))
  rw [if_pos (by decide)]
  refine wpAny_bind (applied_rev (n := items.size) hs ps ?_)
  show wpAny _ _ (if (((items.size : Int) - 1) == 0 && (-1 : Int) == 1 && items.size == items.size) = true then _ else _) _ _ s
  rw [if_neg (by simp), pick_rev]
  first
    | exact wpAny_bind (m := Builtin.Tuple.tupleExact _) (wpAny_newObj_type (wpAny_pure ⟨_, rfl, wpAny_pure h⟩) hok)
    | exact wpAny_bind (m := Builtin.Tuple.tupleExact _) (wpAny_newObj_type (wpAny_bind (wpAny_pure (wpAny_pure ⟨_, rfl, wpAny_pure h⟩))) hok)
    | exact wpAny_bind (wpAny_bind (m := Builtin.Tuple.tupleExact _) (wpAny_newObj_type (wpAny_pure (wpAny_pure ⟨_, rfl, wpAny_pure h⟩)) hok))
end

/-! ### parts of a slice -/
section
variable {X : Cx} {E : WK} {e a b : Expr} {ma mb : EM} {ml : LM} {pos p : Pos}
abbrev OM := Ev → Sto → Out (Option Int)
def tO (K : PySem.W.Frag) (E : WK) (m : OM) : TO := fun σ H Q => ∃ env S g, SR K σ H env S g ∧ Res (m env S) (fun o S' => ∀ H' g', ExE g H g' H' → SRm K H' S' g' → Q o H') fun x S' => RX K (E σ) NoL g H x S'
structure JO (X : Cx) (E : WK) (e : Option Expr) (m : OM) : Prop where
  po : PO X e (tO X.K E m)
theorem weakO {X : Cx} {e : Option Expr} {t t' : TO} (h : PO X e t) (i : ∀ σ H Q, t' σ H Q → t σ H Q) : PO X e t' := ⟨fun pins s σ H Q I q => h.run pins s σ H Q I (i _ _ _ q)⟩
def intOf : D → Option Int
  | .int i => some i
  | _ => none
def oNo : OM := fun _ S => .ok none S
def oE (m : EM) : OM := fun env S => (m env S).bind fun d S1 => (ofO (intOf d) S1).bind fun i S2 => .ok (some i) S2
theorem jo_no : JO X E none oNo := ⟨weakO po_none fun σ H Q ⟨env, S, g, sr, q⟩ => q H g Ext.refl sr.m⟩
theorem jo_e (h : JE X E e ma) : JO X E (some e) (oE ma) := ⟨weakO (po_some h.pe) fun σ H Q ⟨env, S, g, sr, q⟩ => ⟨env, S, g, sr, q.bind.mono (fun d S1 q1 v H1 g1 x1 m1 r1 => by
  obtain ⟨i, hi, q2⟩ := q1.bind.ofO
  cases r1 <;> simp only [intOf, Option.some.injEq, reduceCtorEq] at hi
  subst hi
  exact ⟨_, rfl, q2 H1 g1 x1 m1⟩) fun _ _ h => h⟩⟩
def cutL {α : Type} (xs : List α) (lo hi : Option Int) : List α := (xs.drop (HT.sIx xs.length 0 lo)).take (HT.sIx xs.length xs.length hi - HT.sIx xs.length 0 lo)
theorem Reps.cut {K : PySem.W.Frag} {g : G} {vs : List V} {ds : List D} (r : Reps K g vs ds) (lo hi : Option Int) : Reps K g (cutV vs lo hi) (cutL ds lo hi) := by
  unfold cutV cutL
  rw [r.length]
  exact (r.drop _).take _
theorem cutL_whole {α : Type} {xs : List α} {lo hi : Option Int} (h : HT.sIx xs.length 0 lo = 0 ∧ HT.sIx xs.length xs.length hi = xs.length) : cutL xs lo hi = xs := by
  unfold cutL
  rw [h.1, h.2]
  simp
def sliceD (lo hi : Option Int) : D → Option D
  | .lst ds => some (.lst (cutL ds lo hi))
  | .scr ds => some (.lst (cutL ds lo hi))
  | .tup ds => some (.tup (cutL ds lo hi))
  | .str x => if fits x.length = true then some (.str (cutS x lo hi)) else none
  | _ => none
def eSl (m : EM) (l h : OM) : EM := fun env S => (m env S).bind fun x S1 => (l env S1).bind fun lo S2 => (h env S2).bind fun hi S3 => ofO (sliceD lo hi x) S3
def rSlAll (K : PySem.W.Frag) : V → Option Int → Option Int → Hp → VK → Prop := fun x lo hi H Q => (rSlL K x lo hi H Q ∨ rSlA K x lo hi H Q) ∨ rSlS x lo hi H Q
theorem sl_all : SlR X (rSlAll X.K) := (sl_list.or sl_tupA).or sl_str
theorem je_sl {lo hi : Option Expr} {p2 : Pos} {ol oh : OM} (he : JE X E e ma) (hl : JO X E lo ol) (hh : JO X E hi oh) : JE X E (.Subscript e (.Slice lo hi none p2) pos) (eSl ma ol oh) :=
  ⟨weakE (pe_slice sl_all he.pe hl.po hh.po) fun σ H Q ⟨env, S, g, sr, q⟩ => ⟨env, S, g, sr, q.bind.mono (fun x S1 q1 v H1 g1 x1 m1 r1 => ⟨env, S1, g1, sr.step x1 m1, q1.bind.mono (fun lo S2 q2 H2 g2 x2 m2 => ⟨env, S2, g2, (sr.step x1 m1).step x2 m2, q2.bind.mono (fun hi S3 q3 H3 g3 x3 m3 => by
    obtain ⟨d, hd, q4⟩ := q3.ofO
    have r3 := (r1.mono x2.le).mono x3.le
    have x03 := (x1.trans x2).trans x3
    cases r3 <;> simp only [sliceD, Option.some.injEq, reduceCtorEq] at hd
    · split at hd
      · rename_i hz
        cases hd
        exact .inr ⟨_, rfl, fits_le hz, q4 _ H3 g3 x03 m3 (.str _)⟩
      · cases hd
    · rename_i a vs ds h1 rr
      subst hd
      refine .inl (.inr ⟨_, _, rfl, sqT_mono m3.same h1, fun hw => ?_, fun hw p hp => ?_⟩)
      · rw [rr.length] at hw
        have q5 := q4 (.ref a) H3 g3 x03 m3
        rw [cutL_whole hw] at q5
        exact q5 (.tup h1 rr)
      · obtain ⟨x4, m4⟩ := laidB (o := .tup (cutV vs lo hi)) m3 hp
        exact q4 _ _ _ (x03.trans x4) m4 (.tup (.of upd_same) ((rr.cut lo hi).mono x4.le))
    · rename_i a vs ds h1 rr
      subst hd
      refine .inl (.inl ⟨_, _, rfl, SqL.of (m3.same _ _ h1), fun p hp => ?_⟩)
      obtain ⟨x4, m4⟩ := laidB (o := .lst (cutV vs lo hi)) m3 hp
      exact q4 _ _ _ (x03.trans x4) m4 (.lst upd_same ((rr.cut lo hi).mono x4.le))
    · rename_i a vs ds h1 rr
      subst hd
      refine .inl (.inl ⟨_, _, rfl, m3.same.seq h1, fun p hp => ?_⟩)
      obtain ⟨x4, m4⟩ := laidB (o := .lst (cutV vs lo hi)) m3 hp
      exact q4 _ _ _ (x03.trans x4) m4 (.lst upd_same ((rr.cut lo hi).mono x4.le))) fun _ _ h => (h.step x1).step x2⟩) fun _ _ h => h.step x1⟩) fun _ _ h => h⟩⟩
/-- a slice of an owned list -/
def fSlL (m : LM) (l h : OM) : AM := fun env S => (m env S).bind fun x S1 => (l env S1).bind fun lo S2 => (h env S2).bind fun hi S3 => ifO x.1 (.ok (cutL x.2 lo hi) S3)
theorem jf_slL {lo hi : Option Expr} {p2 : Pos} {ol oh : OM} (he : JL X E e ml) (hl : JO X E lo ol) (hh : JO X E hi oh) : JF X E (.Subscript e (.Slice lo hi none p2) pos) (fSlL ml ol oh) :=
  ⟨weakE (pe_slice sl_list he.pe hl.po hh.po) fun σ H Q ⟨env, S, g, sr, q⟩ => ⟨env, S, g, sr, q.bind.mono (fun x S1 q1 a vs H1 g1 x1 m1 st r1 => ⟨env, S1, g1, sr.step x1 m1, q1.bind.mono (fun lo S2 q2 H2 g2 x2 m2 => ⟨env, S2, g2, (sr.step x1 m1).step x2 m2, q2.bind.mono (fun hi S3 q3 H3 g3 x3 m3 => by
    obtain ⟨l, ds⟩ := x
    obtain ⟨hb, q4⟩ := q3.ifO
    simp only at hb
    subst hb
    have x03 := (x1.trans x2).trans x3
    refine ⟨a, vs, rfl, ((st.step x2).step x3).now m3, fun p hp => ?_⟩
    obtain ⟨x4, m4, hB, hA⟩ := laidF (o := .lst (cutV vs lo hi)) m3 hp
    exact q4 p _ _ _ (x03.trans x4) m4 upd_same (x03.dom p hp) hB hA ((((r1.mono x2.le).mono x3.le).cut lo hi).mono x4.le)) fun _ _ h => (h.step x1).step x2⟩) fun _ _ h => h.step x1⟩) fun _ _ h => h⟩⟩
/-! ### [::-1] -/
def revD : D → Option D
  | .lst ds => some (.lst ds.reverse)
  | .scr ds => some (.lst ds.reverse)
  | .tup ds => some (.tup ds.reverse)
  | _ => none
def tRevT (K : PySem.W.Frag) (te : TE) : TE := fun σ H Q => te σ H fun x H1 => ∃ a xs, x = .ref a ∧ SqT K H1 a xs ∧ ∀ p, H1 p = none → Q (.ref p) (upd H1 p (.tup xs.reverse))
theorem pe_revT {te : TE} {k : Nat} {p1 p2 p3 : Pos} (he : PE X e te) : PE X (.Subscript e (.Slice none none (some (.UnaryOp .USub (.Constant (.int 1) k p1) p2)) p3) pos) (tRevT X.K te) := by
  refine ⟨fun pins s σ H Q I h => Subscript_ (thn (he.run pins s σ H _ I h) fun v s1 ⟨x, H1, I1, r1, a, xs, ex, hx, q⟩ => ?_)⟩
  subst ex
  cases r1
  have hst : PO X (some (.UnaryOp .USub (.Constant (.int 1) k p1) p2)) (tPart (tUn (rU fun i => .int (-i)) (tC (.int 1)))) := po_some (pe_un un_neg pe_int)
  have noPart : ∀ {s : Shared} {H : Hp}, Inv X pins σ H s → _ := fun {s H} I => po_none.run pins s σ H (fun o H2 => o = none ∧ H2 = H) I ⟨rfl, rfl⟩
  refine wpAny_Slice (thn (noPart I1) fun vl s2 ⟨l, H2, I2, pl, el, e2⟩ => ?_)
  subst el e2
  refine thn (noPart I2) fun vu s3 ⟨u, H3, I3, pu, eu, e3⟩ => ?_
  subst eu e3
  refine thn (hst.run pins s3 σ H3 (fun o H4 => o = some (-1) ∧ H4 = H3) I3 ⟨1, rfl, -1, rfl, rfl, rfl⟩) fun vs s4 ⟨o, H4, I4, ps, eo, e4⟩ => ?_
  subst eo e4
  cases pl
  cases pu
  have I5 : Inv X pins σ H4 { s4 with heap := s4.heap.push { cls := .type "slice", data := .fields #[.none, .none, vs] } } := I4.kept (t' := s4.toks) fun b ob q => Heap.get?_push_of_some _ q
  obtain ⟨its, r, ht, hz⟩ := I5.tuple hx
  have hl := r.length
  refine tail_any (ops := [.ref a, .ref s4.heap.objs.size]) ht.typeIs PyProof.Rows.slot_tuple_getitem.lookup ?_ (by with_unfolding_all rfl)
  refine getItem_tuple_rev ht (Heap.IsSliceOf.new _ .none .none vs) ps ?_ (by rw [List.size_toArray, ← hl]; exact hz)
  exact ⟨.ref _, _, I5.laid (t' := s4.toks) (o := .tup xs.reverse) (fun b ob q => Heap.get?_push_of_some _ q) (Nat.le_refl _) ⟨by rw [List.length_reverse]; exact hz, its.reverse, r.reverse, _, Heap.get?_push_size _ rfl, rfl, _, rfl⟩, rfl, q _ (I5.hok.fresh (Nat.le_refl _))⟩
theorem je_rev {k : Nat} {p1 p2 p3 : Pos} (he : JE X E e ma) : JE X E (.Subscript e (.Slice none none (some (.UnaryOp .USub (.Constant (.int 1) k p1) p2)) p3) pos) (eUn revD ma) := by
  have orE : ∀ {t t' : TE}, PE X (.Subscript e (.Slice none none (some (.UnaryOp .USub (.Constant (.int 1) k p1) p2)) p3) pos) t → PE X (.Subscript e (.Slice none none (some (.UnaryOp .USub (.Constant (.int 1) k p1) p2)) p3) pos) t' → PE X (.Subscript e (.Slice none none (some (.UnaryOp .USub (.Constant (.int 1) k p1) p2)) p3) pos) (fun σ H Q => t σ H Q ∨ t' σ H Q) :=
    fun h h' => ⟨fun pins s σ H Q I q => q.elim (h.run pins s σ H Q I) (h'.run pins s σ H Q I)⟩
  refine ⟨weakE (orE (pe_revL he.pe) (pe_revT he.pe)) fun σ H Q ⟨env, S, g, sr, q⟩ => ?_⟩
  have q := q.bind
  cases hm : ma env S with
  | bad => rw [hm] at q; exact q.elim
  | raise x S1 => rw [hm] at q; exact .inl ⟨env, S, g, sr, by rw [hm]; exact q⟩
  | ok d S1 =>
    rw [hm] at q
    obtain ⟨u, hd, q2⟩ := Res.ofO q
    cases d <;> simp only [revD, Option.some.injEq, reduceCtorEq] at hd
    · subst hd
      refine .inr ⟨env, S, g, sr, by
        rw [hm]
        intro v H1 g1 x1 m1 r1
        cases r1 with
        | tup h1 r2 =>
          refine ⟨_, _, rfl, sqT_mono m1.same h1, fun p hp => ?_⟩
          obtain ⟨x4, m4⟩ := laidB (o := .tup _) m1 hp
          exact q2 _ _ _ (x1.trans x4) m4 (.tup (.of upd_same) (r2.reverse.mono x4.le))⟩
    · subst hd
      refine .inl ⟨env, S, g, sr, by
        rw [hm]
        intro v H1 g1 x1 m1 r1
        cases r1 with
        | lst h1 r2 =>
          refine ⟨_, _, rfl, SqL.of (m1.same _ _ h1), fun p hp => ?_⟩
          obtain ⟨x4, m4⟩ := laidB (o := .lst _) m1 hp
          exact q2 _ _ _ (x1.trans x4) m4 (.lst upd_same (r2.reverse.mono x4.le))⟩
    · subst hd
      refine .inl ⟨env, S, g, sr, by
        rw [hm]
        intro v H1 g1 x1 m1 r1
        cases r1 with
        | scr h1 r2 =>
          refine ⟨_, _, rfl, m1.same.seq h1, fun p hp => ?_⟩
          obtain ⟨x4, m4⟩ := laidB (o := .lst _) m1 hp
          exact q2 _ _ _ (x1.trans x4) m4 (.lst upd_same (r2.reverse.mono x4.le))⟩
/-! ### items -/
def ixD : D → D → Option D
  | .tup ds, .int i => atI ds i
  | .lst ds, .int i => atI ds i
  | .scr ds, .int i => atI ds i
  | .str z, .int i => if fits z.length = true then (match atI z.cps.toList i with | some c => some (.str ⟨#[c]⟩) | none => none) else none
  | _, _ => none
theorem atI_rep {K : PySem.W.Frag} {g : G} {vs : List V} {ds : List D} {i : Int} {d : D} (r : Reps K g vs ds) (h : atI ds i = some d) : ∃ v, atI vs i = some v ∧ Rep K g v d := by
  unfold atI at h ⊢
  rw [r.length]
  cases hi : ixN ds.length i with
  | none => rw [hi] at h; cases h
  | some j =>
    rw [hi] at h
    obtain ⟨v, e, r'⟩ := r.at (i := j) h
    exact ⟨v, e, r'⟩
theorem dIx : DOp X.K (rIx X.K) ixD := fun g H S Q x y v w d m rx ry h q => by
  cases rx <;> cases ry <;> simp only [ixD, reduceCtorEq] at h
  · split at h
    · rename_i hz
      split at h
      · cases h
        exact .inr (.inr ⟨_, _, _, rfl, rfl, fits_le hz, by assumption, q _ H g Ext.refl m (.str _)⟩)
      · cases h
    · cases h
  · obtain ⟨u, hu, r⟩ := atI_rep (by assumption) h
    exact .inr (.inl ⟨_, _, _, _, rfl, rfl, sqT_mono m.same (by assumption), hu, q _ H g Ext.refl m r⟩)
  · obtain ⟨u, hu, r⟩ := atI_rep (by assumption) h
    exact .inl ⟨_, _, _, _, rfl, rfl, SqL.of (m.same _ _ (by assumption)), hu, q _ H g Ext.refl m r⟩
  · obtain ⟨u, hu, r⟩ := atI_rep (by assumption) h
    exact .inl ⟨_, _, _, _, rfl, rfl, m.same.seq (by assumption), hu, q _ H g Ext.refl m r⟩
def eIxL (m : LM) (b : EM) : EM := fun env S => (m env S).bind fun x S1 => (b env S1).bind fun i S2 => (ofO (intOf i) S2).bind fun j S3 => ifO x.1 (ofO (atI x.2 j) S3)
theorem je_ixL (ha : JL X E a ml) (hb : JE X E b mb) (hs : PlainIx b) : JE X E (.Subscript a b pos) (eIxL ml mb) :=
  ⟨weakE (pe_ix ix_list ha.pe hb.pe hs) fun σ H Q ⟨env, S, g, sr, q⟩ => ⟨env, S, g, sr, q.bind.mono (fun x S1 q1 a vs H1 g1 x1 m1 st r1 => ⟨env, S1, g1, sr.step x1 m1, q1.bind.mono (fun i S2 q2 w H2 g2 x2 m2 r2 => by
    obtain ⟨l, ds⟩ := x
    obtain ⟨j, hj, q3⟩ := q2.bind.ofO
    obtain ⟨hb, q4⟩ := q3.ifO
    obtain ⟨d, hd, q5⟩ := q4.ofO
    simp only at hb hd
    subst hb
    cases r2 <;> simp only [intOf, Option.some.injEq, reduceCtorEq] at hj
    subst hj
    obtain ⟨u, hu, r⟩ := atI_rep (r1.mono x2.le) hd
    exact ⟨_, _, _, _, rfl, rfl, (st.step x2).now m2, hu, q5 _ H2 g2 (x1.trans x2) m2 r⟩) fun _ _ h => h.step x1⟩) fun _ _ h => h⟩⟩
end
end Dg

namespace Dg
open PySem PySem.Spec PyProof.Rows L2
/-! ### isinstance -/
def tyNm : D → Option String
  | .non => some "NoneType"
  | .bl _ => some "bool"
  | .int _ => some "int"
  | .str _ => some "str"
  | .tup _ => some "tuple"
  | .lst _ => some "list"
  | .scr _ => some "list"
  | .dK _ => some "dict"
  | .dT _ => some "dict"
  | _ => none
theorem tyNm_eq {K : PySem.W.Frag} {g : G} {H : Hp} {v : V} {x : D} {n : String} (e : Same g.B H) (r : Rep K g v x) (h : tyNm x = some n) : TyX K H v (.type n) := by
  cases r <;> simp only [tyNm, Option.some.injEq, reduceCtorEq] at h <;> subst h
  · exact .base .non
  · exact .base (.bl _)
  · exact .base (.int _)
  · exact .base (.str _)
  · rename_i h1 _
    rcases sqT_mono e h1 with (h | ⟨o, h⟩) | ⟨o, its, n, h2, h3, _⟩
    · exact .base (.tup h)
    · exact .fTuple h
    · exact .kTuple h2 h3
  · rename_i h1 _
    exact .base (.lst (e _ _ h1))
  · rename_i h1 _
    rcases e.seq h1 with (h | ⟨o, h⟩) | ⟨o, its, n, h2, h3, _⟩
    · exact .base (.lst h)
    · exact .base (.frz h)
    · exact .kList h2 h3
  · rename_i h1 _
    exact .base (.dK (e _ _ h1))
  · rename_i h1 _
    exact .base (.dT (e _ _ h1))
def rawTy : D → Option String
  | .raw (.ty n) => some n
  | _ => none
theorem rawTy_eq {K : PySem.W.Frag} {g : G} {v : V} {c : D} {n : String} (r : Rep K g v c) (h : rawTy c = some n) : v = .ty n := by
  cases c with
  | raw u =>
    cases u with
    | ty m =>
      cases r
      simp only [rawTy, Option.some.injEq] at h
      rw [h]
    | _ => simp [rawTy] at h
  | _ => simp [rawTy] at h
def isiD : List D → Option D
  | [x, c] => match tyNm x, rawTy c with
    | some t, some n => (kitB t n).map D.bl
    | _, _ => none
  | _ => none
section
variable {X : Cx} {E : WK} {e a b : Expr} {ma mb : EM} {ml : LM} {pos p : Pos}
theorem dIsi : DCall X.K (rIsi X.K) isiD := fun g H S Q ds vs d m r h q => by
  cases r with
  | nil => simp [isiD] at h
  | cons r rs =>
    cases rs with
    | nil => simp [isiD] at h
    | cons r2 rs =>
      cases rs with
      | cons _ _ => simp [isiD] at h
      | nil =>
        simp only [isiD] at h
        split at h
        · rename_i t n h1 h2
          obtain rfl := rawTy_eq r2 h2
          obtain ⟨k, hk, rfl⟩ := Option.map_eq_some_iff.mp h
          exact ⟨_, _, _, _, _, rfl, .ty _, tyNm_eq m.same r h1, kit_ty hk, q _ H g Ext.refl m (.bl _)⟩
        · cases h
/-! ### in, not in -/
def flatD : D → Bool
  | .lst _ => true
  | .scr _ => true
  | .tup _ => true
  | _ => false
/-- by plain data, in a list or a tuple -/
def inD0 (neg : Bool) (x : D) (q : Bool × List D) : Option D := match toPy x, toPys q.2 with
  | some d, some ds => if (SeqAt.shaped d && SeqAt.shaped (.list ds)) = true then some (.bl (neg != ds.any fun z => PyData.eqv z d)) else none
  | _, _ => none
theorem inD0_eq {neg : Bool} {x : D} {q : Bool × List D} {u : D} (h : inD0 neg x q = some u) : ∃ d ds, toPy x = some d ∧ toPys q.2 = some ds ∧ SeqAt.shaped d = true ∧ SeqAt.shaped (.list ds) = true ∧ u = .bl (neg != ds.any fun z => PyData.eqv z d) := by
  unfold inD0 at h
  split at h
  · split at h
    · rename_i hz
      simp only [Bool.and_eq_true] at hz
      cases h
      exact ⟨_, _, by assumption, by assumption, hz.1, hz.2, rfl⟩
    · cases h
  · cases h
def rInT (K : PySem.W.Frag) (neg : Bool) : R2 := fun x y H Q => ∃ d ds, Dp K H x d ∧ (Dp K H y (.list ds) ∨ Dp K H y (.tuple ds)) ∧ SeqAt.shaped d = true ∧ SeqAt.shaped (.list ds) = true ∧ Q (.bl (neg != ds.any fun z => PyData.eqv z d)) H
theorem shaped_lt {ds : List PyData} : SeqAt.shaped (.tuple ds) = SeqAt.shaped (.list ds) := by
  unfold SeqAt.shaped PyData.canLay0 PyData.depth
  rfl
theorem op_inT (hu : X.A.units + 65 < cLine) : OpR X (compareOp .In) (rInT X.K false) := by
  intro pins s σ H x y v u Q I rx ry ⟨d, ds, hd, hy, sd, se, q⟩
  obtain ⟨as, r1⟩ := Dp.reads I d x v hd rx
  simp only [Bool.false_bne] at q
  have room := room_in_shaped (xs := ds) sd hu
  have lay := SeqAt.canLay_of_shaped se
  rcases hy with he | he
  · obtain ⟨bs, r2⟩ := Dp.reads I (.list ds) y u he ry
    exact SeqAt.in_list_reads r2 r1 lay (SeqAt.canLay_of_shaped sd) room ⟨.bl _, H, I, rfl, q⟩
  · obtain ⟨bs, r2⟩ := Dp.reads I (.tuple ds) y u he ry
    exact SeqAt.in_tuple_reads r2 r1 lay (SeqAt.canLay_of_shaped sd) room ⟨.bl _, H, I, rfl, q⟩
theorem op_notInT (hu : X.A.units + 65 < cLine) : OpR X (compareOp .NotIn) (rInT X.K true) := by
  intro pins s σ H x y v u Q I rx ry ⟨d, ds, hd, hy, sd, se, q⟩
  obtain ⟨as, r1⟩ := Dp.reads I d x v hd rx
  simp only [Bool.true_bne] at q
  have room := room_in_shaped (xs := ds) sd hu
  have lay := SeqAt.canLay_of_shaped se
  rcases hy with he | he
  · obtain ⟨bs, r2⟩ := Dp.reads I (.list ds) y u he ry
    exact SeqAt.notIn_list_reads r2 r1 lay (SeqAt.canLay_of_shaped sd) room ⟨.bl _, H, I, rfl, q⟩
  · obtain ⟨bs, r2⟩ := Dp.reads I (.tuple ds) y u he ry
    exact SeqAt.notIn_tuple_reads r2 r1 lay (SeqAt.canLay_of_shaped sd) room ⟨.bl _, H, I, rfl, q⟩
theorem dp_seq {K : PySem.W.Frag} {g : G} {H : Hp} {l : Bool} {a : Addr} {vs : List V} {ds : List D} {ps : List PyData} (e : Same g.B H) (hs : SqAt K H l a vs) (r : Reps K g vs ds) (h : toPys ds = some ps) : Dp K H (.ref a) (.list ps) ∨ Dp K H (.ref a) (.tuple ps) := by
  cases l with
  | true => exact .inl (.lst hs (reps_dp e r h))
  | false => exact .inr (.tup hs (reps_dp e r h))
def inSeqD (neg : Bool) (x y : D) : Option D := match seqD y with
  | some q => inD0 neg x q
  | none => none
theorem dInT {neg : Bool} : DOp X.K (rInT X.K neg) (inSeqD neg) := fun g H S Q x y v w d m rx ry h q => by
  unfold inSeqD at h
  split at h
  · rename_i qq hq
    obtain ⟨p, ps, h1, h2, h3, h4, rfl⟩ := inD0_eq h
    obtain ⟨l, ds⟩ := qq
    obtain ⟨a, vs, rfl, s1, r1⟩ := seq_at ry hq
    exact ⟨p, ps, rep_dp m.same rx h1, dp_seq m.same (sqAt_mono m.same s1) r1 h2, h3, h4, q _ H g Ext.refl m (.bl _)⟩
  · cases h
/-- in an owned list -/
def eInL (neg : Bool) (a : EM) (m : LM) : EM := fun env S => (a env S).bind fun x S1 => (m env S1).bind fun q S2 => ofO (inD0 neg x q) S2
theorem tinl_of {neg : Bool} : ∀ σ H Q, tE X.K E (eInL neg ma ml) σ H Q → tOp (rInT X.K neg) (tE X.K E ma) (tL X.K E ml) σ H Q := fun σ H Q ⟨env, S, g, sr, q⟩ =>
  ⟨env, S, g, sr, q.bind.mono (fun x S1 q1 v H1 g1 x1 m1 r1 => ⟨env, S1, g1, sr.step x1 m1, q1.bind.mono (fun qq S2 q2 a vs H2 g2 x2 m2 st r2 => by
    obtain ⟨d, hd, q3⟩ := q2.ofO
    obtain ⟨p, ps, h1, h2, h3, h4, rfl⟩ := inD0_eq hd
    exact ⟨p, ps, rep_dp m2.same (r1.mono x2.le) h1, dp_seq m2.same (st.now m2) r2 h2, h3, h4, q3 _ H2 g2 (x1.trans x2) m2 (.bl _)⟩) fun _ _ h => h.step x1⟩) fun _ _ h => h⟩
theorem je_inL (hu : X.A.units + 65 < cLine) (ha : JE X E a ma) (hb : JL X E b ml) (hm : behindInMarks .In b = false) : JE X E (.Compare a [.In] [b] pos) (eInL false ma ml) := ⟨weakE (pe_cmpR (op_inT hu) ha.pe hb.pe hm) tinl_of⟩
theorem je_notInL (hu : X.A.units + 65 < cLine) (ha : JE X E a ma) (hb : JL X E b ml) (hm : behindInMarks .NotIn b = false) : JE X E (.Compare a [.NotIn] [b] pos) (eInL true ma ml) := ⟨weakE (pe_cmpR (op_notInT hu) ha.pe hb.pe hm) tinl_of⟩
theorem jt_inL (hu : X.A.units + 65 < cLine) (ha : JE X E a ma) (hb : JL X E b ml) (hm : behindInMarks .In b = false) : JT X E (.Compare a [.In] [b] pos) (tOfE (eInL false ma ml)) := ⟨weakT (pt_cmpR (op_inT hu) ha.pe hb.pe hm) (tB_of tinl_of)⟩
theorem jt_notInL (hu : X.A.units + 65 < cLine) (ha : JE X E a ma) (hb : JL X E b ml) (hm : behindInMarks .NotIn b = false) : JT X E (.Compare a [.NotIn] [b] pos) (tOfE (eInL true ma ml)) := ⟨weakT (pt_cmpR (op_notInT hu) ha.pe hb.pe hm) (tB_of tinl_of)⟩
end
/-! ### what an owned list or dict becomes -/
theorem SR.live {K : PySem.W.Frag} {σ : Sg} {H : Hp} {env : Ev} {S : Sto} {g : G} {i : Nat} {o o' : MObj} {a : Addr} {u : HO} (sr : SR K σ H env S g) (hi : env[i]? = some (.live o)) (ha : σ[i]? = some (some (.ref a))) (hm : MRep K g (upd H a u) a o') :
    SR K σ (upd H a u) (env.set i (.live o')) S g ∧ (∀ b, Lv σ (env.set i (.live o')) b → Lv σ env b) ∧ Ext (Lv σ env) g H (Lv σ (env.set i (.live o'))) g (upd H a u) := by
  obtain ⟨a', e1, nB, nA, r⟩ := sr.lv i o hi
  rw [ha] at e1
  cases e1
  have hl : i < env.length := (List.getElem?_eq_some_iff.mp hi).1
  obtain ⟨u0, hu0⟩ := r.some
  have live_of : ∀ (j : Nat) q, (env.set i (.live o'))[j]? = some (.live q) → (j = i ∧ q = o') ∨ (j ≠ i ∧ env[j]? = some (.live q)) := fun j q e => by
    by_cases z : j = i
    · subst z
      rw [List.getElem?_set_self hl] at e
      cases e
      exact .inl ⟨rfl, rfl⟩
    · rw [List.getElem?_set_ne (Ne.symm z)] at e
      exact .inr ⟨z, e⟩
  have lv_of : ∀ b, Lv σ (env.set i (.live o')) b → Lv σ env b := fun b ⟨j, q, e1, e2⟩ => by
    rcases live_of j q e1 with ⟨rfl, rfl⟩ | ⟨_, e⟩
    · exact ⟨j, o, hi, e2⟩
    · exact ⟨j, q, e, e2⟩
  refine ⟨⟨sr.m.own nB nA, by simp [sr.len], fun j d e => ?_, fun j q e => ?_, fun j k q q' b hjk e1 e2 e3 => ?_⟩, lv_of, ⟨Le.refl _, fun b ob h n nl => ?_, fun b h => ?_, fun b ob h n => (by rw [n] at h; cases h), fun b h => .inl h, fun b h => .inl (lv_of b h)⟩⟩
  · by_cases z : j = i
    · subst z
      rw [List.getElem?_set_self hl] at e
      cases e
    · rw [List.getElem?_set_ne (Ne.symm z)] at e
      exact sr.val j d e
  · rcases live_of j q e with ⟨rfl, rfl⟩ | ⟨z, e'⟩
    · exact ⟨a, ha, nB, nA, hm⟩
    · obtain ⟨b, f1, f2, f3, f4⟩ := sr.lv j q e'
      refine ⟨b, f1, f2, f3, f4.mono (Le.refl _) fun w hw => ?_⟩
      rw [upd_ne (fun y => ?_)]
      · exact hw
      · subst y
        exact sr.lnd i j o q b (Ne.symm z) hi e' ha f1
  · rcases live_of j q e1 with ⟨rfl, rfl⟩ | ⟨z1, e1'⟩
    · rcases live_of k q' e2 with ⟨rfl, rfl⟩ | ⟨z2, e2'⟩
      · exact absurd rfl hjk
      · exact sr.lnd j k o q' b hjk hi e2' e3
    · rcases live_of k q' e2 with ⟨rfl, rfl⟩ | ⟨z2, e2'⟩
      · exact sr.lnd j k q o b hjk e1' hi e3
      · exact sr.lnd j k q q' b hjk e1' e2' e3
  · rw [upd_ne (fun z => nl ⟨i, o, hi, by rw [z]; exact ha⟩)]
    exact h
  · by_cases z : b = a
    · rw [z, upd_same] at h
      cases h
    · rw [upd_ne z] at h
      exact h
section
variable {X : Cx} {E : WK} {e a b : Expr} {ma mb : EM} {ml : LM} {pos p apos : Pos}
/-- x.append(e), x an owned list -/
def ifS (c : Bool) (o : So) : So := match c with | true => o | false => .bad
theorem ResS.ifS {c : Bool} {o : So} {nx : Ev → Sto → Prop} {rt : D → Sto → Prop} {bk ct : Ev → Sto → Prop} {rs : Ex → Ev → Sto → Prop} (h : ResS (Dg.ifS c o) nx rt bk ct rs) : c = true ∧ ResS o nx rt bk ct rs := by
  cases c with
  | true => exact ⟨rfl, h⟩
  | false => exact h.elim
def withL (i : Nat) (k : List D → SM) : SM := fun env S => match liveL env[i]? with
  | some q => k q.2 env S
  | none => .bad
theorem ResS.withL {i : Nat} {k : List D → SM} {env : Ev} {S : Sto} {nx : Ev → Sto → Prop} {rt : D → Sto → Prop} {bk ct : Ev → Sto → Prop} {rs : Ex → Ev → Sto → Prop} (h : ResS (Dg.withL i k env S) nx rt bk ct rs) : ∃ ds, env[i]? = some (.live (.lst ds)) ∧ ResS (k ds env S) nx rt bk ct rs := by
  unfold Dg.withL at h
  cases hl : liveL env[i]? with
  | none => rw [hl] at h; exact h.elim
  | some q =>
    rw [hl] at h
    obtain ⟨ds, rfl, hd⟩ := liveL_eq hl
    exact ⟨ds, hd, h⟩
def sApp (i : Nat) (m : EM) : SM := withL i fun ds => sBind m fun d env S => ifS (fits (ds.length + 1)) (.nx (env.set i (.live (.lst (ds ++ [d])))) S)
theorem js_app {i : Nat} {o : Expr} (ho : PE X o (tVar i)) (he : JE X E e ma) (h : ∀ {to te : TE}, PE X o to → PE X e te → PS X (.Expr (.Call (.Attribute o "append" apos) [e] [] p) pos) (tDrop (tBM X.K "list" rAppend to (tCons te tNil)))) :
    JS X E (.Expr (.Call (.Attribute o "append" apos) [e] [] p) pos) (sApp i ma) := ⟨weakS (h ho he.pe) fun Dn σ H ⟨env, S, g, sr, q⟩ => by
  obtain ⟨ds, hd, q⟩ := q.withL
  obtain ⟨a, e1, nB, nA, vs, h1, rd⟩ := sr.lv i _ hd
  refine ⟨_, e1, .inl ⟨rfl, vs, SqL.of h1⟩, env, S, g, sr, q.bindX.mono (fun d S1 q1 v H1 g1 x1 m1 r1 => ?_) fun _ _ h => h.ex sr⟩
  obtain ⟨hz, q2⟩ := ResS.ifS q1
  have h2 := x1.kp a _ h1 nA fun z => z
  have sr1 := sr.step x1 m1
  have rd1 := rd.mono x1.le
  refine ⟨a, vs, v, rfl, rfl, h2, ?_, ?_⟩
  · have := fits_le hz
    rw [rd.length]
    omega
  · obtain ⟨s3, _, x3⟩ := sr1.live (u := .lst (vs ++ [v])) (o' := .lst (ds ++ [d])) hd e1 ⟨_, upd_same, rd1.append (.cons r1 .nil)⟩
    exact q2 σ _ g1 (x1.lift.trans x3) s3⟩
end
end Dg

namespace Dg
open PySem PySem.Spec PyProof.Rows L2
/-! ### items, of shared changing lists too -/
def DOpS (K : PySem.W.Frag) (r : R2) (f : Sto → D → D → Option D) : Prop := ∀ (g : G) (H : Hp) (S : Sto) (Q : VK) (x y : D) (v w : V) (d : D), SRm K H S g → Rep K g v x → Rep K g w y → f S x y = some d →
  (∀ u H' g', ExE g H g' H' → SRm K H' S g' → Rep K g' u d → Q u H') → r v w H Q
def eOpS (f : Sto → D → D → Option D) (a b : EM) : EM := fun env S => (a env S).bind fun x S1 => (b env S1).bind fun y S2 => ofO (f S2 x y) S2
def stoL (S : Sto) (k : Nat) : Option (List D) := match S[k]? with
  | some (.lst ds) => some ds
  | _ => none
theorem stoL_eq {S : Sto} {k : Nat} {ds : List D} (h : stoL S k = some ds) : S[k]? = some (.lst ds) := by
  unfold stoL at h
  split at h
  · cases h
    assumption
  · cases h
theorem SRm.at {K : PySem.W.Frag} {H : Hp} {S : Sto} {g : G} {k : Nat} {a : Addr} {ds : List D} (m : SRm K H S g) (ha : g.al[k]? = some a) (h : S[k]? = some (.lst ds)) : ∃ vs, H a = some (.lst vs) ∧ Reps K g vs ds := m.mem k a _ ha h
def ixS (S : Sto) : D → D → Option D
  | .hnd k, .int i => (stoL S k).bind fun ds => atI ds i
  | x, y => ixD x y
section
variable {X : Cx} {E : WK} {e a b o : Expr} {ma mb : EM} {ml : LM} {pos p : Pos}
theorem dIxS : DOpS X.K (rIx X.K) ixS := fun g H S Q x y v w d m rx ry h q => by
  unfold ixS at h
  split at h
  · rename_i k i
    obtain ⟨ds, h1, h2⟩ := Option.bind_eq_some_iff.mp h
    cases rx with
    | hnd ha =>
      cases ry
      obtain ⟨vs, h3, r⟩ := m.at ha (stoL_eq h1)
      obtain ⟨u, hu, ru⟩ := atI_rep r h2
      exact .inl ⟨_, _, _, _, rfl, rfl, SqL.of h3, hu, q _ H g Ext.refl m ru⟩
  · exact dIx g H S Q _ _ v w d m rx ry h q
theorem je_ix (ha : JE X E a ma) (hb : JE X E b mb) (hs : PlainIx b) : JE X E (.Subscript a b pos) (eOpS ixS ma mb) :=
  ⟨weakE (pe_ix ix_seq ha.pe hb.pe hs) fun σ H Q ⟨env, S, g, sr, q⟩ => ⟨env, S, g, sr, q.bind.mono (fun x S1 q1 v H1 g1 x1 m1 r1 => ⟨env, S1, g1, sr.step x1 m1, q1.bind.mono (fun y S2 q2 w H2 g2 x2 m2 r2 => by
    obtain ⟨d, hd, q3⟩ := q2.ofO
    exact dIxS g2 H2 S2 Q x y v w d m2 (r1.mono x2.le) r2 hd fun u H' g' e' m' r' => q3 u H' g' ((x1.trans x2).trans e') m' r') fun _ _ h => h.step x1⟩) fun _ _ h => h⟩⟩
/-! ### targets that change lists -/
abbrev PM2 := D → Ev → Sto → Option (Ev × Sto)
def P2k (K : PySem.W.Frag) (t : TG) (p : PM2) : Prop := ∀ (σ : Sg) (H : Hp) (env : Ev) (S : Sto) (g : G) (v : V) (d : D) (env' : Ev) (S' : Sto) (Q : Sg → Hp → Prop), SR K σ H env S g → Rep K g v d → p d env S = some (env', S') →
  (∀ σ' H' g', SR K σ' H' env' S' g' → Ext (Lv σ env) g H (Lv σ' env') g' H' → Q σ' H') → t v σ H Q
abbrev PM2s := List D → Ev → Sto → Option (Ev × Sto)
def P2ks (K : PySem.W.Frag) (t : TGs) (p : PM2s) : Prop := ∀ (σ : Sg) (H : Hp) (env : Ev) (S : Sto) (g : G) (v : List V) (d : List D) (env' : Ev) (S' : Sto) (Q : Sg → Hp → Prop), SR K σ H env S g → Reps K g v d → p d env S = some (env', S') →
  (∀ σ' H' g', SR K σ' H' env' S' g' → Ext (Lv σ env) g H (Lv σ' env') g' H' → Q σ' H') → t v σ H Q
def p2O (p : PM) : PM2 := fun d env S => (p d env).map fun env' => (env', S)
theorem p2_o {K : PySem.W.Frag} {t : TG} {sl : List Nat} {p : PM} (h : POk K t sl p) : P2k K t (p2O p) := fun σ H env S g v d env' S' Q s r hp q => by
  obtain ⟨e1, h1, h2⟩ := Option.map_eq_some_iff.mp hp
  cases h2
  exact h σ H env S g v d env' _ s r h1 fun σ' s' l' _ _ => q σ' H g s' (Ext.put Ext.refl fun a z => .inl (l' a z))
def p2Nil : PM2s := fun ds env S => match ds with | [] => some (env, S) | _ => none
def p2Cons (p : PM2) (r : PM2s) : PM2s := fun ds env S => match ds with
  | d :: ds => (p d env S).bind fun q => r ds q.1 q.2
  | [] => none
theorem p2s_nil {K : PySem.W.Frag} : P2ks K gNil p2Nil := fun σ H env S g v d env' S' Q s r h q => by
  cases r with
  | nil =>
    cases h
    exact ⟨rfl, q σ H g s Ext.refl⟩
  | cons _ _ => cases h
theorem p2s_cons {K : PySem.W.Frag} {p : PM2} {r : PM2s} {t1 : TG} {t2 : TGs} (k1 : P2k K t1 p) (k2 : P2ks K t2 r) : P2ks K (gCons t1 t2) (p2Cons p r) := fun σ H env S g v d env' S' Q s rr h q => by
  cases rr with
  | nil => cases h
  | cons r1 r2 =>
    obtain ⟨⟨e1, S1⟩, h1, h2⟩ := Option.bind_eq_some_iff.mp h
    exact ⟨_, _, rfl, k1 σ H env S g _ _ e1 S1 _ s r1 h1 fun σ1 H1 g1 s1 x1 => k2 σ1 H1 e1 S1 g1 _ _ env' S' _ s1 (r2.mono x1.le) h2 fun σ2 H2 g2 s2 x2 => q σ2 H2 g2 s2 (x1.trans x2)⟩
def p2Tp (r : PM2s) (n : Nat) : PM2 := fun d env S => match tupD d with
  | some ds => if ds.length = n then r ds env S else none
  | none => none
theorem p2_tp {K : PySem.W.Frag} {n : Nat} {r : PM2s} {t : TGs} (k1 : P2ks K t r) : P2k K (gTup K n t) (p2Tp r n) := fun σ H env S g v d env' S' Q s rr h q => by
  cases rr <;> simp only [p2Tp, tupD] at h <;> try (cases h; done)
  rename_i a vs ds h1 r1
  split at h
  · rename_i hl
    exact ⟨a, vs, rfl, sqT_mono s.m.same h1, by rw [r1.length]; exact hl, k1 σ H env S g vs ds env' S' Q s r1 h q⟩
  · cases h
/-- a changed shared list -/
theorem SR.sto {K : PySem.W.Frag} {σ : Sg} {H : Hp} {env : Ev} {S : Sto} {g : G} {k : Nat} {a : Addr} {u : HO} {o' : MObj} (sr : SR K σ H env S g) (ha : g.al[k]? = some a) (hm : MRep K g (upd H a u) a o') :
    SR K σ (upd H a u) env (S.set k o') g ∧ Ext (Lv σ env) g H (Lv σ env) g (upd H a u) := by
  have hmem : a ∈ g.al := List.mem_of_getElem? ha
  have hB := sr.m.fr a hmem
  refine ⟨⟨⟨fun b w h => ?_, by simp [sr.m.len], sr.m.nd, sr.m.fr, fun j b o e1 e2 => ?_⟩, sr.len, sr.val, fun i o e => ?_, sr.lnd⟩, ⟨Le.refl _, fun b ob h n nl => ?_, fun b h => ?_, fun b ob h n => (by rw [n] at h; cases h), fun b h => .inl h, fun b h => .inl h⟩⟩
  · rw [upd_ne (ne_of_none h hB)]
    exact sr.m.same _ _ h
  · by_cases z : j = k
    · subst z
      rw [ha] at e1
      cases e1
      have hl : j < S.length := by rw [← sr.m.len]; exact (List.getElem?_eq_some_iff.mp ha).1
      rw [List.getElem?_set_self hl] at e2
      cases e2
      exact hm
    · rw [List.getElem?_set_ne (Ne.symm z)] at e2
      refine (sr.m.mem j b o e1 e2).mono (Le.refl _) fun w hw => ?_
      rw [upd_ne (fun y => z ?_)]
      · exact hw
      · subst y
        obtain ⟨h1, q1⟩ := List.getElem?_eq_some_iff.mp e1
        obtain ⟨h2, q2⟩ := List.getElem?_eq_some_iff.mp ha
        exact (List.getElem_inj sr.m.nd).mp (q1.trans q2.symm)
  · obtain ⟨b, f1, f2, f3, f4⟩ := sr.lv i o e
    refine ⟨b, f1, f2, f3, f4.mono (Le.refl _) fun w hw => ?_⟩
    rw [upd_ne (fun y => f3 (by rw [y]; exact hmem))]
    exact hw
  · rw [upd_ne (fun z => n (by rw [z]; exact hmem))]
    exact h
  · by_cases z : b = a
    · rw [z, upd_same] at h
      cases h
    · rw [upd_ne z] at h
      exact h
def hndS : Option Slot → Option Nat
  | some (.val (.hnd k)) => some k
  | _ => none
theorem hndS_eq {o : Option Slot} {k : Nat} (h : hndS o = some k) : o = some (.val (.hnd k)) := by
  unfold hndS at h
  split at h
  · cases h
    rfl
  · cases h
/-- x[i] = .., x an owned or a shared list -/
def p2Sub (i : Nat) (mi : EM) : PM2 := fun d env S => match mi env S with
  | .ok (.int j) S1 => match hndS env[i]? with
    | some k => match stoL S1 k with
      | some ds => (ixN ds.length j).map fun n => (env, S1.set k (.lst (ds.set n d)))
      | none => none
    | none => match liveL env[i]? with
      | some q => (ixN q.2.length j).map fun n => (env.set i (.live (.lst (q.2.set n d))), S1)
      | none => none
  | _ => none
theorem p2_sub {i : Nat} {mi : EM} : P2k X.K (gSub (tVar i) (tE X.K E mi) rSetL) (p2Sub i mi) := fun σ H env S g v d env' S' Q sr rv h q => by
  unfold p2Sub at h
  cases hm : mi env S with
  | bad => simp [hm] at h
  | raise _ _ => simp [hm] at h
  | ok dj S1 =>
    rw [hm] at h
    cases dj with
    | int j =>
      simp only at h
      cases hk : hndS env[i]? with
      | some k =>
        rw [hk] at h
        simp only at h
        cases hs : stoL S1 k with
        | none => rw [hs] at h; cases h
        | some ds =>
          rw [hs] at h
          obtain ⟨n, hn, he⟩ := Option.map_eq_some_iff.mp h
          cases he
          obtain ⟨vo, e1, ro⟩ := sr.val i _ (hndS_eq hk)
          cases ro with
          | hnd ha =>
            rename_i a
            refine ⟨_, e1, env, S, g, sr, ?_⟩
            rw [hm]
            intro w H1 g1 x1 m1 r1
            cases r1
            have sr1 := sr.step x1 m1
            have ha1 := x1.le.at ha
            obtain ⟨vs, h3, r3⟩ := m1.at ha1 (stoL_eq hs)
            refine ⟨a, vs, j, n, rfl, rfl, h3, by rw [r3.length]; exact hn, ?_⟩
            obtain ⟨s4, x4⟩ := sr1.sto (u := .lst (vs.set n v)) (o' := .lst (ds.set n d)) ha1 ⟨_, upd_same, r3.set (rv.mono x1.le) n⟩
            exact q σ _ g1 s4 (x1.lift.trans x4)
      | none =>
        rw [hk] at h
        simp only at h
        cases hl : liveL env[i]? with
        | none => rw [hl] at h; cases h
        | some qq =>
          rw [hl] at h
          obtain ⟨ds, rfl, hd⟩ := liveL_eq hl
          obtain ⟨n, hn, he⟩ := Option.map_eq_some_iff.mp h
          cases he
          obtain ⟨a, e1, nB, nA, vs, h1, rd⟩ := sr.lv i _ hd
          refine ⟨_, e1, env, S, g, sr, ?_⟩
          rw [hm]
          intro w H1 g1 x1 m1 r1
          cases r1
          have sr1 := sr.step x1 m1
          refine ⟨a, vs, j, n, rfl, rfl, x1.kp a _ h1 nA fun z => z, by rw [rd.length]; exact hn, ?_⟩
          obtain ⟨s4, _, x4⟩ := sr1.live (u := .lst (vs.set n v)) (o' := .lst (ds.set n d)) hd e1 ⟨_, upd_same, (rd.mono x1.le).set (rv.mono x1.le) n⟩
          exact q σ _ g1 s4 (x1.lift.trans x4)
    | _ => simp at h
def ofS2 (o : Option (Ev × Sto)) : So := match o with | some q => .nx q.1 q.2 | none => .bad
def sPat2 (p : PM2) (m : EM) : SM := sBind m fun d env S => ofS2 (p d env S)
theorem js_pat2 {tg : Expr} {gt : TG} {p : PM2} (he : JE X E e ma) (hg : PG X tg gt) (hp : P2k X.K gt p) (hs : swapsWithSole [tg] e pos.line X.env = pure false := by rfl) (hw : swappedStores [tg] e X.env = pure none := by rfl)
    (h1 : (assignEach [tg] X.env).map (·.2) = [assign tg X.env] := by rfl) : JS X E (.Assign [tg] e pos) (sPat2 p ma) := ⟨weakS (ps_asg he.pe hg hs hw h1) fun Dn σ H ⟨env, S, g, sr, q⟩ =>
  ⟨env, S, g, sr, q.bindX.mono (fun d S1 q1 v H1 g1 x1 m1 r1 => by
    cases hq : p d env S1 with
    | none => simp only [hq, ofS2] at q1; exact q1.elim
    | some qq =>
      obtain ⟨env', S'⟩ := qq
      simp only [hq, ofS2] at q1
      exact hp σ H1 env S1 g1 v d env' S' _ (sr.step x1 m1) r1 hq fun σ' H' g' s' x' => q1 σ' H' g' (x1.lift.trans x') s') fun _ _ h => h.ex sr⟩⟩
/-! ### two names at once -/
def lvNil : LSsM := fun _ S => .ok [] S
def lvCons (a : LSM) (r : LSsM) : LSsM := fun env S => (a env S).bind fun x S1 => (r env S1).bind fun xs S2 => .ok (x :: xs) S2
/-- values that are stored one behind another -/
inductive VRs (K : PySem.W.Frag) : Hp → G → Hp → List V → List Slot → Prop
  | nil {H0 g H} : VRs K H0 g H [] []
  | cons {H0 H1 g H v s vs ss} : VR K H0 g H v s → (∀ a, H1 a = none → H0 a = none) → (∀ a, v = .ref a → ∀ o, s = .live o → H1 a ≠ none) → VRs K H1 g H vs ss → VRs K H0 g H (v :: vs) (s :: ss)
def tVs (K : PySem.W.Frag) (E : WK) (m : LSsM) : TA := fun σ H Q => ∃ env S g, SR K σ H env S g ∧ Res (m env S) (fun ss S' => ∀ vs H' g', ExE g H g' H' → SRm K H' S' g' → VRs K H g' H' vs ss → Q vs H') fun x S' => RX K (E σ) NoL g H x S'
structure JVs (X : Cx) (E : WK) (es : List Expr) (m : LSsM) : Prop where
  pa : PA X es (tVs X.K E m)
theorem jvs_nil : JVs X E [] lvNil := ⟨weakA pa_nil fun σ H Q ⟨env, S, g, sr, q⟩ => q [] H g Ext.refl sr.m .nil⟩
theorem jvs_cons {es : List Expr} {mv : LSM} {mr : LSsM} (ha : JV X E e mv) (hr : JVs X E es mr) (hs : starEach (e :: es) X.env = (false, eval e X.env) :: starEach es X.env := by rfl) : JVs X E (e :: es) (lvCons mv mr) :=
  ⟨weakA (pa_cons ha.pe hr.pa hs) fun σ H Q ⟨env, S, g, sr, q⟩ => ⟨env, S, g, sr, q.bind.mono (fun s S1 q1 v H1 g1 x1 m1 r1 => ⟨env, S1, g1, sr.step x1 m1, q1.bind.mono (fun ss S2 q2 vs H2 g2 x2 m2 r2 => by
    refine q2 _ H2 g2 (x1.trans x2) m2 (.cons (r1.step x2) x1.dom (fun a e o hs => ?_) r2)
    subst hs
    obtain ⟨a', e', _, _, _, mr⟩ := r1
    rw [e] at e'
    cases e'
    obtain ⟨u, hu⟩ := mr.some
    rw [hu]
    exact fun z => nomatch z) fun _ _ h => h.step x1⟩) fun _ _ h => h⟩⟩
def set2 (i j : Nat) (ss : List Slot) (env : Ev) : Option Ev := match ss with
  | [s, t] => (setS i s env).bind fun e1 => setS j t e1
  | _ => none
theorem VR.wid {K : PySem.W.Frag} {H0 H1 : Hp} {g : G} {H : Hp} {v : V} {s : Slot} (h : VR K H1 g H v s) (i : ∀ a, H1 a = none → H0 a = none) : VR K H0 g H v s := by
  cases s with
  | no => exact h
  | val d => exact h
  | live o =>
    obtain ⟨a, e, h0, r⟩ := h
    exact ⟨a, e, i a h0, r⟩
theorem js_par {i j : Nat} {x y : Str} {px py pt : Pos} {kt k2 pt2} {mv : LSsM} (hc : X.calm = true) (hN : X.N.Nodup) (hi : X.N[i]? = some x) (hj : X.N[j]? = some y) (hij : i ≠ j)
    (hx : X.env.scope.names.lookup x = some .local) (hy : X.env.scope.names.lookup y = some .local) (ha : JVs X E [a, b] mv)
    (hw : swappedStores [.Tuple [.Name x px, .Name y py] kt pt] (.Tuple [a, b] k2 pt2) X.env = pure (some [x, y]))
    (hs : swapsWithSole [.Tuple [.Name x px, .Name y py] kt pt] (.Tuple [a, b] k2 pt2) pos.line X.env = pure false := by rfl)
    (h : PS X (.Assign [.Tuple [.Name x px, .Name y py] kt pt] (.Tuple [a, b] k2 pt2) pos) (tPar i j (tVs X.K E mv))) : JS X E (.Assign [.Tuple [.Name x px, .Name y py] kt pt] (.Tuple [a, b] k2 pt2) pos) (sBind mv fun ss env S => ofS (set2 i j ss env) S) :=
  ⟨weakS h fun Dn σ H ⟨env, S, g, sr, q⟩ => ⟨env, S, g, sr, q.bindX.mono (fun ss S1 q1 vs H1 g1 x1 m1 r1 => by
    obtain ⟨env', he, q2⟩ := q1.ofS
    unfold set2 at he
    split at he
    · rename_i s t
      obtain ⟨e1, h1, h2⟩ := Option.bind_eq_some_iff.mp he
      cases r1 with
      | cons r1 d1 n1 rr =>
        cases rr with
        | cons r2 d2 n2 rr =>
          cases rr
          rename_i Ha v Hb w
          have sr1 := sr.step x1 m1
          obtain ⟨s2, l2⟩ := sr1.putS r1 (fun a => sr.lvSome) h1
          have no2 : ∀ a, Ha a = none → ¬ Lv (σ.set i (some v)) e1 a := fun a ha hl => by
            -- a live place of the first store is there ahead of the second value
            obtain ⟨k, o, f1, f2⟩ := hl
            unfold setS at h1
            split at h1
            · rename_i hlt
              cases h1
              by_cases z : k = i
              · subst z
                rw [List.getElem?_set_self hlt] at f1
                rw [List.getElem?_set_self (by rw [sr.len]; exact hlt)] at f2
                cases f1
                cases f2
                exact n1 a rfl o rfl ha
              · rw [List.getElem?_set_ne (Ne.symm z)] at f1 f2
                exact sr.lvSome (d1 a ha) ⟨k, o, f1, f2⟩
            · cases h1
          obtain ⟨s3, l3⟩ := s2.putS r2 no2 h2
          refine ⟨v, w, rfl, q2 _ H1 g1 (x1.put fun a z => ?_) s3⟩
          rcases l3 a z with z | z
          · rcases l2 a z with z | z
            · exact .inl z
            · exact .inr z
          · exact .inr (d1 a z)
    · cases he) fun _ _ h => h.ex sr⟩⟩
end
end Dg

namespace Dg
open PySem PySem.Spec PyProof.Rows L2
/-! ### dicts with ints and texts as keys -/
def keyD : D → Option Key
  | .int i => some (.inl i)
  | .str x => some (.inr x)
  | _ => none
theorem keyD_eq {K : PySem.W.Frag} {g : G} {v : V} {x : D} {k : Key} (r : Rep K g v x) (h : keyD x = some k) : v = kV k := by
  cases r <;> simp only [keyD, Option.some.injEq, reduceCtorEq] at h <;> subst h <;> rfl
def valD {κ : Type} [DecidableEq κ] (kvs : List (κ × D)) (k : κ) : Option D := (kvs.find? fun p => decide (p.1 = k)).map (·.2)
def putD {κ : Type} [DecidableEq κ] (kvs : List (κ × D)) (k : κ) (d : D) : List (κ × D) := if (valD kvs k).isSome = true then kvs.map fun p => if p.1 = k then (p.1, d) else p else kvs ++ [(k, d)]
theorem RepK.val {K : PySem.W.Frag} {g : G} : ∀ {ks : List (Key × V)} {kvs : List (Key × D)} (k : Key), RepK K g ks kvs → (valD kvs k = none ∧ valV ks k = none) ∨ ∃ d v, valD kvs k = some d ∧ valV ks k = some v ∧ Rep K g v d
  | _, _, k, .nil => .inl ⟨rfl, rfl⟩
  | _, _, k, .cons (k := k') (d := d) (v := v) r rs => by
    by_cases e : k' = k
    · refine .inr ⟨d, v, ?_, valV_pos e, r⟩
      simp [valD, List.find?_cons, e]
    · rw [valV_neg (p := (k', v)) e]
      have e2 : ∀ {kvs : List (Key × D)}, valD ((k', d) :: kvs) k = valD kvs k := fun {kvs} => by simp [valD, List.find?_cons, e]
      rw [e2]
      exact rs.val k
theorem RepK.length {K : PySem.W.Frag} {g : G} : ∀ {ks : List (Key × V)} {kvs : List (Key × D)}, RepK K g ks kvs → ks.length = kvs.length
  | _, _, .nil => rfl
  | _, _, .cons _ r => by rw [List.length_cons, List.length_cons, r.length]
theorem RepK.app {K : PySem.W.Frag} {g : G} : ∀ {ks ls : List (Key × V)} {kvs lvs : List (Key × D)}, RepK K g ks kvs → RepK K g ls lvs → RepK K g (ks ++ ls) (kvs ++ lvs)
  | _, _, _, _, .nil, q => q
  | _, _, _, _, .cons h r, q => .cons h (RepK.app r q)
theorem RepK.repl {K : PySem.W.Frag} {g : G} {v : V} {d : D} (h : Rep K g v d) (k : Key) : ∀ {ks : List (Key × V)} {kvs : List (Key × D)}, RepK K g ks kvs → RepK K g (ks.map fun kv => if kv.1 = k then (kv.1, v) else kv) (kvs.map fun p => if p.1 = k then (p.1, d) else p)
  | _, _, .nil => .nil
  | _, _, .cons (k := k') r rs => by
    rw [List.map_cons, List.map_cons]
    by_cases e : k' = k
    · simp only [e, if_true]
      exact .cons h (rs.repl h k)
    · simp only [e, if_false]
      exact .cons r (rs.repl h k)
theorem RepK.put {K : PySem.W.Frag} {g : G} {v : V} {d : D} {ks : List (Key × V)} {kvs : List (Key × D)} (r : RepK K g ks kvs) (k : Key) (h : Rep K g v d) : RepK K g (putK ks k v) (putD kvs k d) := by
  unfold putD putK
  rw [valV_any]
  rcases r.val k with ⟨e1, e2⟩ | ⟨d', v', e1, e2, _⟩
  · rw [e1, e2]
    exact r.app (.cons h .nil)
  · rw [e1, e2]
    exact r.repl h k
/-- where a dict is read -/
def StbD (K : PySem.W.Frag) (g : G) (H : Hp) (a : Addr) (ks : List (Key × V)) : Prop := ∀ H' S' g', ExE g H g' H' → SRm K H' S' g' → H' a = some (.dK ks)
theorem StbD.step {K : PySem.W.Frag} {g g1 : G} {H H1 : Hp} {a : Addr} {ks : List (Key × V)} (h : StbD K g H a ks) (e : ExE g H g1 H1) : StbD K g1 H1 a ks := fun H' S' g' e' m => h H' S' g' (e.trans e') m
theorem StbD.now {K : PySem.W.Frag} {g : G} {H : Hp} {S : Sto} {a : Addr} {ks : List (Key × V)} (h : StbD K g H a ks) (m : SRm K H S g) : H a = some (.dK ks) := h H S g Ext.refl m
abbrev DM := Ev → Sto → Out (List (Key × D))
def tDk (K : PySem.W.Frag) (E : WK) (m : DM) : TE := fun σ H Q => ∃ env S g, SR K σ H env S g ∧ Res (m env S) (fun kvs S' => ∀ a ks H' g', ExE g H g' H' → SRm K H' S' g' → StbD K g' H' a ks → RepK K g' ks kvs → Q (.ref a) H') fun x S' => RX K (E σ) NoL g H x S'
structure JD (X : Cx) (E : WK) (e : Expr) (m : DM) : Prop where
  pe : PE X e (tDk X.K E m)
def dkOf : D → Option (List (Key × D))
  | .dK kvs => some kvs
  | _ => none
def dE (m : EM) : DM := fun env S => (m env S).bind fun d S1 => ofO (dkOf d) S1
def liveK (o : Option Slot) : Option (List (Key × D)) := match liveS o with
  | some (.dK kvs) => some kvs
  | _ => none
theorem liveK_eq {o : Option Slot} {p : List (Key × D)} (h : liveK o = some p) : o = some (.live (.dK p)) := by
  unfold liveK at h
  cases q : liveS o with
  | none => rw [q] at h; cases h
  | some u =>
    rw [q] at h
    cases u with
    | dK ds => cases h; exact liveS_eq q
    | lst _ => cases h
    | dT _ => cases h
    | ins _ _ => cases h
def dVar (i : Nat) : DM := fun env S => ofO (liveK env[i]?) S
section
variable {X : Cx} {E : WK} {e a b o f : Expr} {ma mb mk mx : EM} {md : DM} {pos p apos cpos : Pos}
theorem jd_e (h : JE X E e ma) : JD X E e (dE ma) := ⟨weakE h.pe fun σ H Q ⟨env, S, g, sr, q⟩ => ⟨env, S, g, sr, q.bind.mono (fun d S1 q1 v H1 g1 x1 m1 r1 => by
  obtain ⟨kvs, hd, q2⟩ := q1.ofO
  cases r1 <;> simp only [dkOf, Option.some.injEq, reduceCtorEq] at hd
  subst hd
  exact q2 _ _ H1 g1 x1 m1 (fun H' S' g' x m => m.same _ _ (x.le.B _ _ (by assumption))) (by assumption)) fun _ _ h => h⟩⟩
theorem jd_v {i : Nat} (h : PE X e (tVar i)) : JD X E e (dVar i) := ⟨weakE h fun σ H Q ⟨env, S, g, sr, q⟩ => by
  obtain ⟨kvs, hd, q⟩ := q.ofO
  obtain ⟨a, e1, nB, nA, ks, h1, r⟩ := sr.lv i _ (liveK_eq hd)
  exact ⟨_, e1, q a ks H g Ext.refl sr.m (fun H' S' g' x m => x.kp a _ h1 nA fun z => z) r⟩⟩
def vDnew : LSM := fun _ S => .ok (.live (.dK [])) S
theorem jv_dnew : JV X E (.Dict [] [] pos) vDnew := ⟨weakE pe_dnewK fun σ H Q ⟨env, S, g, sr, q⟩ => fun p hp => by
  obtain ⟨x2, m2, hb, ha⟩ := laidF (o := .dK []) sr.m hp
  exact q _ _ g x2 m2 ⟨p, rfl, hp, hb, ha, [], upd_same, .nil⟩⟩
def eDget (d : DM) (k : EM) : EM := fun env S => (d env S).bind fun kvs S1 => (k env S1).bind fun x S2 => (ofO (keyD x) S2).bind fun y S3 => ofO (valD kvs y) S3
theorem je_dget (hu : X.A.units + 1 < cLine) (ho : JD X E o md) (hi : JE X E e mk) (hs : NoSl e) : JE X E (.Subscript o e pos) (eDget md mk) := ⟨weakE (pe_dget hu ho.pe hi.pe hs) fun σ H Q ⟨env, S, g, sr, q⟩ =>
  ⟨env, S, g, sr, q.bind.mono (fun kvs S1 q1 a ks H1 g1 x1 m1 st r1 => ⟨env, S1, g1, sr.step x1 m1, q1.bind.mono (fun x S2 q2 v H2 g2 x2 m2 r2 => by
    obtain ⟨k, hk, q3⟩ := q2.bind.ofO
    obtain ⟨d, hd, q4⟩ := q3.ofO
    obtain rfl := keyD_eq r2 hk
    rcases (r1.mono x2.le).val k with ⟨e1, _⟩ | ⟨d', v', e1, e2, r3⟩
    · rw [hd] at e1; cases e1
    · rw [hd] at e1
      cases e1
      refine ⟨a, v', rfl, ?_, q4 v' H2 g2 (x1.trans x2) m2 r3⟩
      rw [← e2]
      exact DGet.k ((st.step x2).now m2)) fun _ _ h => h.step x1⟩) fun _ _ h => h⟩⟩
def eDget2 (d : DM) (k x : EM) : EM := fun env S => (d env S).bind fun kvs S1 => (k env S1).bind fun kx S2 => (x env S2).bind fun z S3 => (ofO (keyD kx) S3).bind fun y S4 => .ok ((valD kvs y).getD z) S4
theorem je_dget2 (hu : X.A.units + 1 < cLine) (ho : JD X E o md) (he : JE X E e mk) (hf : JE X E f mx) (m : M2 X o "get" apos e f cpos) : JE X E (.Call (.Attribute o "get" apos) [e, f] [] cpos) (eDget2 md mk mx) := ⟨weakE (pe_dget2 hu ho.pe he.pe hf.pe m) fun σ H Q ⟨env, S, g, sr, q⟩ =>
  ⟨env, S, g, sr, q.bind.mono (fun kvs S1 q1 a ks H1 g1 x1 m1 st r1 => ⟨a, rfl, .inl ⟨ks, .inl (st.now m1)⟩, env, S1, g1, sr.step x1 m1, q1.bind.mono (fun x S2 q2 v H2 g2 x2 m2 r2 => ⟨env, S2, g2, (sr.step x1 m1).step x2 m2, q2.bind.mono (fun z S3 q3 w H3 g3 x3 m3 r3 => by
    obtain ⟨k, hk, q4⟩ := q3.bind.ofO
    obtain rfl := keyD_eq r2 hk
    have x03 := (x1.trans x2).trans x3
    refine ⟨valV ks k, DGet.k (((st.step x2).step x3).now m3), ?_⟩
    rcases ((r1.mono x2.le).mono x3.le).val k with ⟨e1, e2⟩ | ⟨d', v', e1, e2, r5⟩
    · rw [e1] at q4
      rw [e2]
      exact q4 _ H3 g3 x03 m3 r3
    · rw [e1] at q4
      rw [e2]
      exact q4 _ H3 g3 x03 m3 r5) fun _ _ h => (h.step x1).step x2⟩) fun _ _ h => h.step x1⟩) fun _ _ h => h⟩⟩
/-- d[k] = v, d an owned dict -/
def withD (i : Nat) (k : List (Key × D) → SM) : SM := fun env S => match liveK env[i]? with
  | some q => k q env S
  | none => .bad
theorem ResS.withD {i : Nat} {k : List (Key × D) → SM} {env : Ev} {S : Sto} {nx : Ev → Sto → Prop} {rt : D → Sto → Prop} {bk ct : Ev → Sto → Prop} {rs : Ex → Ev → Sto → Prop} (h : ResS (Dg.withD i k env S) nx rt bk ct rs) : ∃ ds, env[i]? = some (.live (.dK ds)) ∧ ResS (k ds env S) nx rt bk ct rs := by
  unfold Dg.withD at h
  cases hl : liveK env[i]? with
  | none => rw [hl] at h; exact h.elim
  | some q =>
    rw [hl] at h
    exact ⟨q, liveK_eq hl, h⟩
def sDput (i : Nat) (k v : EM) : SM := withD i fun kvs => sBind v fun d => sBind k fun x env S => match keyD x with
  | some y => ifS (fits (kvs.length + 1)) (.nx (env.set i (.live (.dK (putD kvs y d)))) S)
  | none => .bad
theorem js_dput {i : Nat} {pos' : Pos} (hu : X.A.units + 1 < cLine) (ho : PE X o (tVar i)) (hk : JE X E e mk) (hv : JE X E b mb) (hs : swapsWith b (some (.Subscript o e pos')) pos.line X.env = pure false := by rfl) :
    JS X E (.Assign [.Subscript o e pos'] b pos) (sDput i mk mb) := ⟨weakS (ps_dput hu ho hk.pe hv.pe hs) fun Dn σ H ⟨env, S, g, sr, q⟩ => by
  obtain ⟨kvs, hd, q⟩ := q.withD
  obtain ⟨a, e1, nB, nA, ks, h1, rd⟩ := sr.lv i _ hd
  refine ⟨env, S, g, sr, q.bindX.mono (fun d S1 q1 v H1 g1 x1 m1 r1 => ⟨_, e1, env, S1, g1, sr.step x1 m1, ResS.bindX q1 |>.mono (fun x S2 q2 w H2 g2 x2 m2 r2 => ?_) fun _ _ h => (h.step x1.lift).ex (sr.step x1 m1)⟩) fun _ _ h => h.ex sr⟩
  cases hy : keyD x with
  | none => rw [hy] at q2; exact q2.elim
  | some y =>
    rw [hy] at q2
    obtain ⟨hz, q3⟩ := ResS.ifS q2
    obtain rfl := keyD_eq r2 hy
    have x02 := x1.trans x2
    have h2 := x02.kp a _ h1 nA fun z => z
    have sr2 := (sr.step x1 m1).step x2 m2
    have rd2 := (rd.mono x1.le).mono x2.le
    obtain ⟨s3, _, x3⟩ := sr2.live (u := .dK (putK ks y v)) (o' := .dK (putD kvs y d)) hd e1 ⟨_, upd_same, rd2.put y (r1.mono x2.le)⟩
    refine ⟨a, _, rfl, DPut.k h2 ?_, q3 σ _ g2 (x02.lift.trans x3) s3⟩
    have := fits_le hz
    rw [rd.length]
    omega⟩
end
/-! ### sorted(d, reverse=True), the keys ints -/
def insI (i : Int) : List Int → List Int
  | [] => [i]
  | j :: r => if i ≤ j then i :: j :: r else j :: insI i r
def sortI : List Int → List Int
  | [] => []
  | i :: r => insI i (sortI r)
theorem insI_perm (i : Int) : ∀ l : List Int, (insI i l).Perm (i :: l)
  | [] => .refl _
  | j :: r => by
    unfold insI
    split
    · exact .refl _
    · exact ((insI_perm i r).cons j).trans (.swap i j r)
theorem sortI_perm : ∀ l : List Int, (sortI l).Perm l
  | [] => .refl _
  | i :: r => (insI_perm i (sortI r)).trans ((sortI_perm r).cons i)
theorem insI_le (i : Int) : ∀ l : List Int, l.Pairwise (· ≤ ·) → (insI i l).Pairwise (· ≤ ·)
  | [], _ => by simp [insI]
  | j :: r, h => by
    unfold insI
    split
    · rename_i hij
      refine List.pairwise_cons.mpr ⟨fun a ha => ?_, h⟩
      rcases List.mem_cons.mp ha with e | e
      · omega
      · have := (List.pairwise_cons.mp h).1 a e
        omega
    · rename_i hij
      refine List.pairwise_cons.mpr ⟨fun a ha => ?_, insI_le i r (List.pairwise_cons.mp h).2⟩
      rcases List.mem_cons.mp ((insI_perm i r).mem_iff.mp ha) with e | e
      · omega
      · exact (List.pairwise_cons.mp h).1 a e
theorem sortI_le : ∀ l : List Int, (sortI l).Pairwise (· ≤ ·)
  | [] => .nil
  | i :: r => insI_le i _ (sortI_le r)
theorem sorted_one : ∀ {l l' : List Int}, l.Perm l' → l.Pairwise (· ≤ ·) → l'.Pairwise (· ≤ ·) → l = l'
  | [], l', p, _, _ => (List.nil_perm.mp p).symm ▸ rfl
  | a :: r, [], p, _, _ => absurd p.length_eq (by simp)
  | a :: r, b :: r', p, h, h' => by
    have h1 := List.pairwise_cons.mp h
    have h2 := List.pairwise_cons.mp h'
    have ha : a ∈ b :: r' := p.mem_iff.mp List.mem_cons_self
    have hb : b ∈ a :: r := p.mem_iff.mpr List.mem_cons_self
    have e : a = b := by
      rcases List.mem_cons.mp ha with e | e
      · exact e
      · rcases List.mem_cons.mp hb with e' | e'
        · exact e'.symm
        · have := h2.1 a e
          have := h1.1 b e'
          omega
    subst e
    rw [sorted_one (List.Perm.cons_inv p) h1.2 h2.2]
theorem sortI_eq {l l' : List Int} (p : l'.Perm l) (h : l'.Pairwise (· ≤ ·)) : l' = sortI l := sorted_one (p.trans (sortI_perm l).symm) h (sortI_le l)
theorem sortI_rev {l l' : List Int} (p : l'.Perm l) (h : l'.Pairwise (· ≥ ·)) : l' = (sortI l).reverse := by
  have h2 : l'.reverse = sortI l := sortI_eq ((List.reverse_perm l').trans p) (by rw [List.pairwise_reverse]; exact h)
  rw [← h2, List.reverse_reverse]
end Dg

namespace Dg
open PySem PySem.Spec PyProof.Rows L2
section
variable {X : Cx}
/-- sorted(d, reverse=True) of a dict whose keys are ints -/
def rSortD (K : PySem.W.Frag) (b : Bool) : List V → List V → Hp → VK → Prop := fun vs zs H Q => ∃ (a : Addr) (kvs : List (Key × V)) (ks : List Int), vs = [.ref a] ∧ zs = [.bl b] ∧ H a = some (.dK kvs) ∧ kvs.map (·.1) = ks.map Sum.inl ∧
  ∀ p, H p = none → Q (.ref p) (upd H p (.lst ((if b = true then (sortI ks).reverse else sortI ks).map V.int)))
theorem cr_sortD {b : Bool} (hcalm : X.calm = true) : CallRK X (.builtin "sorted") [Str.ofString "reverse"] (rSortD X.K b) := by
  intro pins s σ H vs zs us ws Q I r rz ⟨a, kvs, ks, ex, ez, hd, hks, q⟩
  subst ex ez
  obtain ⟨u, eu, rx⟩ := vals1 r
  subst eu
  cases rx
  obtain ⟨w1, rfl, e1⟩ := vals1 rz
  obtain rfl : w1 = Value.bool b := e1
  obtain ⟨z, lo, vs, rel, dd⟩ := dk_of I.hok hd
  obtain ⟨ep, hat⟩ := dd.dictAt
  have hkeys : vs.map (·.1) = ks.map Sum.inl := rel.keys.symm.trans hks
  have hl : vs.length = ks.length := by simpa using congrArg List.length hkeys
  have h16 : vs.length ≤ sizeLine := by rw [← rel.length]; exact z
  show wpAny _ _ (call (.builtin "sorted") [.ref a] [(Str.ofString "reverse", .bool b)]) _ _ _
  refine call_function_entry_kw kind_sorted plain_sorted entry_sorted (PyProof.Rows.args_sorted_rev _ _) ?_
  unfold Builtin.«sorted»
  refine wpAny_bind (m := checkCount "sorted" 1 1 _) (wpAny_pure ?_)
  refine wpAny_bind (PySem.W.kdu_collect (PySem.W.kdl_dict (knd := mixKind X.prog X.w) (kvs := vs) (ep := ep) lo) (I.ok.hd hcalm) hat h16 fun h' tk acc hk hacc => ?_)
  have hal : acc.toList.length = ks.length := by rw [Array.length_toList, hacc.1, hl]
  have hI : IntsAre acc.toList ks := ints_each hal fun j v e => by
    obtain ⟨k, x, e1, e2⟩ := hacc.2 j v (by rw [← Array.getElem?_toList]; exact e)
    have e3 : (ks.map Sum.inl)[j]? = some k := by rw [← hkeys, List.getElem?_map, e1]; rfl
    rw [List.getElem?_map, Option.map_eq_some_iff] at e3
    obtain ⟨y, e4, rfl⟩ := e3
    rcases keyIs_shape (show keyIs (Sum.inl y) v = true from e2) with ⟨i, t, ek, ev⟩ | ⟨z, t, ek, ev⟩
    · cases ek
      exact ⟨y, t, e4, ev⟩
    · cases ek
  have hz2 : acc.toList.length ≤ sizeLine := by rw [hal, ← hl]; exact h16
  have I1 : L2.Inv X pins σ H { s with heap := h', toks := tk } := I.kept hk
  refine wpAny_bind (wpAny_newList ?_ hz2)
  have hoL : (h'.push (seqObj "list" acc.toList.toArray 0)).get? h'.objs.size = some (seqObj "list" acc.toList.toArray 0) := Heap.get?_push_size _ rfl
  show wpAny _ _ _ _ _ { s with heap := h'.push (seqObj "list" acc.toList.toArray 0), toks := tk }
  refine wpAny_bind (wpAny_holding (wpAny_call_entry_kw slot_list_sort ⟨_, hoL, rfl⟩ entry_list_sort ?_ (PyProof.Rows.args_list_sort_rev _ _)))
  refine SrtR.list_sort_ordR SrtO.swo_int hoL hz2 (fun h2 => SrtO.ints_sortable hI h2) fun out hs hb => ⟨_, rfl, ?_⟩
  obtain ⟨ns', k1, k2, k3⟩ := SrtR.ints_outR hI hs hb
  have ens : ns' = if b = true then (sortI ks).reverse else sortI ks := by
    cases b with
    | true => exact sortI_rev k2 k3
    | false => exact sortI_eq k2 k3
  subst ens
  obtain ⟨e', he'⟩ := PyProof.Rows.sortedHeap_at (vs := acc.toList) (out := if b = true then out.toArray.reverse else out.toArray) hoL
  have hlen : ((if b = true then (sortI ks).reverse else sortI ks).map V.int).length ≤ sizeLine := by
    rw [List.length_map, k2.length_eq, ← hal]
    exact hz2
  have e0 : ((if b = true then out.toArray.reverse else out.toArray).toList).toArray = (if b = true then out.toArray.reverse else out.toArray) := by rw [Array.toArray_toList]
  refine wpAny_pure ⟨_, rfl, .ref h'.objs.size, _, I1.laid (o := .lst ((if b = true then (sortI ks).reverse else sortI ks).map V.int)) (t' := tk) (fun c u e => ?_) (Nat.le_refl _) ⟨hlen, _, e', vals_of_ints k1, by rw [e0]; exact he'⟩, rfl, q _ (I1.hok.fresh (Nat.le_refl _))⟩
  have hb2 : c < h'.objs.size := Heap.lt_size e
  rw [PyProof.Rows.sortedHeap_old (Nat.ne_of_lt hb2) (by rw [size_push']; exact Nat.lt_succ_of_lt hb2)]
  exact Heap.get?_push_of_some _ e
/-! calls with one keyword -/
variable {E : WK} {x : Str} {p pos : Pos} {e b : Expr} {ma mb : EM} {md : DM} {ml : LM} {kws : List Keyword} {nm : Option Str} {kp : Pos}
def intKeys {α : Type} : List (Key × α) → Option (List Int)
  | [] => some []
  | (.inl i, _) :: r => match intKeys r with | some ns => some (i :: ns) | none => none
  | _ :: _ => none
theorem intKeys_eq {K : PySem.W.Frag} {g : G} : ∀ {ks : List (Key × V)} {kvs : List (Key × D)} {ns : List Int}, RepK K g ks kvs → intKeys kvs = some ns → ks.map (·.1) = ns.map Sum.inl
  | _, _, ns, .nil, h => by
    simp only [intKeys, Option.some.injEq] at h
    subst h
    rfl
  | _, _, ns, .cons (k := .inl i) (ds := ds) r rs, h => by
    simp only [intKeys] at h
    cases h1 : intKeys ds with
    | none => rw [h1] at h; cases h
    | some ms =>
      rw [h1] at h
      cases h
      rw [List.map_cons, List.map_cons, intKeys_eq rs h1]
  | _, _, ns, .cons (k := .inr _) r rs, h => by simp [intKeys] at h
def boolD : D → Option Bool := blD
def fSortD (d : DM) (b : Bool) : AM := fun env S => (d env S).bind fun kvs S1 => (ofO (intKeys kvs) S1).bind fun ks S2 => .ok ((if b = true then (sortI ks).reverse else sortI ks).map D.int) S2
theorem Reps.ofInts {K : PySem.W.Frag} {g : G} : ∀ ns : List Int, Reps K g (ns.map V.int) (ns.map D.int)
  | [] => .nil
  | n :: ns => .cons (.int n) (Reps.ofInts ns)
theorem jf_sortD {b : Bool} {kk : Nat} {kp2 : Pos} (hc : X.calm = true) (hd : JD X E e md) (hg : Gl X x) (hm : X.mg x = none) (hv : bootBuiltins x = some (.builtin "sorted"))
    (h : ∀ {te : TE}, PE X e te → PE X (.Call (.Name x p) [e] [⟨some "reverse", .Constant (.bool b) kk kp2, kp⟩] pos) (tCKw (rSortD X.K b) (tCons te tNil) (tCons (tC (.bl b)) tNil))) :
    JF X E (.Call (.Name x p) [e] [⟨some "reverse", .Constant (.bool b) kk kp2, kp⟩] pos) (fSortD md b) := ⟨weakE (h hd.pe) fun σ H Q ⟨env, S, g, sr, q⟩ =>
  ⟨env, S, g, sr, q.bind.mono (fun kvs S1 q1 a ks H1 g1 x1 m1 st r1 => by
    obtain ⟨ns, hn, q2⟩ := q1.bind.ofO
    refine ⟨a, ks, ns, rfl, rfl, st.now m1, intKeys_eq r1 hn, fun p hp => ?_⟩
    obtain ⟨x2, m2, hB, hA⟩ := laidF (o := .lst ((if b = true then (sortI ns).reverse else sortI ns).map V.int)) m1 hp
    exact q2 p _ _ _ (x1.trans x2) m2 upd_same (x1.dom p hp) hB hA (Reps.ofInts _)) fun _ _ h => h⟩⟩
/-- sorted(xs), sorted(xs, reverse=..) of ints -/
def fSortL (m : LM) (b : Bool) : AM := fun env S => (m env S).bind fun q S1 => (ofO (intsD q.2) S1).bind fun ks S2 => ifO q.1 (.ok ((if b = true then (sortI ks).reverse else sortI ks).map D.int) S2)
theorem jf_sortR {b : Bool} {kk : Nat} {kp2 : Pos} (hd : JL X E e ml)
    (h : ∀ {te : TE}, PE X e te → PE X (.Call (.Name x p) [e] [⟨some "reverse", .Constant (.bool b) kk kp2, kp⟩] pos) (tCKw (rSortedKw X.K b [.bl b]) (tCons te tNil) (tCons (tC (.bl b)) tNil))) :
    JF X E (.Call (.Name x p) [e] [⟨some "reverse", .Constant (.bool b) kk kp2, kp⟩] pos) (fSortL ml b) := ⟨weakE (h hd.pe) fun σ H Q ⟨env, S, g, sr, q⟩ =>
  ⟨env, S, g, sr, q.bind.mono (fun qq S1 q1 a vs H1 g1 x1 m1 st r1 => by
    obtain ⟨ns, hn, q2⟩ := q1.bind.ofO
    obtain ⟨hb, q3⟩ := q2.ifO
    obtain ⟨l, ds⟩ := qq
    simp only at hb hn
    subst hb
    obtain rfl := intsD_eq hn
    obtain rfl := r1.ints
    refine ⟨a, ns, rfl, rfl, st.now m1, fun ns' p k2 k3 hp => ?_⟩
    have ens : ns' = if b = true then (sortI ns).reverse else sortI ns := by
      cases b with
      | true => exact sortI_rev k2 k3
      | false => exact sortI_eq k2 k3
    subst ens
    obtain ⟨x2, m2, hB, hA⟩ := laidF (o := .lst ((if b = true then (sortI ns).reverse else sortI ns).map V.int)) m1 hp
    exact q3 p _ _ _ (x1.trans x2) m2 upd_same (x1.dom p hp) hB hA (Reps.ofInts _)) fun _ _ h => h⟩⟩
/-! divmod, abs, int, max and min of two -/
def divmodD : List D → Option D
  | [.int i, .int j] => if (decide (0 < j) && decide (j < 1073741824)) = true then some (.tup [.int (i / j), .int (i % j)]) else none
  | _ => none
theorem dDivmod : DCall X.K (fun xs H Q => ∃ i j, xs = [.int i, .int j] ∧ CDiv i j ∧ ∀ p, H p = none → Q (.ref p) (upd H p (.tup [.int (i / j), .int (i % j)]))) divmodD := fun g H S Q ds vs d m r h q => by
  unfold divmodD at h
  split at h
  · rename_i i j
    split at h
    · rename_i hz
      cases h
      simp only [Bool.and_eq_true, decide_eq_true_eq] at hz
      cases r with
      | cons r rs =>
        cases rs with
        | cons r2 rs =>
          cases rs
          cases r
          cases r2
          refine ⟨i, j, rfl, hz, fun p hp => ?_⟩
          obtain ⟨x2, m2⟩ := laidB (o := .tup [.int (i / j), .int (i % j)]) m hp
          exact q _ _ _ x2 m2 (.tup (.of upd_same) (.cons (.int _) (.cons (.int _) .nil)))
    · cases h
  · cases h
def absD : List D → Option D
  | [.int i] => some (.int (if i < 0 then -i else i))
  | _ => none
theorem dAbs : DCall X.K (fun xs H Q => ∃ i, xs = [.int i] ∧ Q (.int (if i < 0 then -i else i)) H) absD := fun g H S Q ds vs d m r h q => by
  unfold absD at h
  split at h
  · cases h
    cases r with
    | cons r rs =>
      cases rs
      cases r
      exact ⟨_, rfl, q _ H g Ext.refl m (.int _)⟩
  · cases h
def max2D : List D → Option D
  | [.int i, .int j] => some (.int (if j > i then j else i))
  | _ => none
def min2D : List D → Option D
  | [.int i, .int j] => some (.int (if j < i then j else i))
  | _ => none
theorem dMax2 : DCall X.K (fun xs H Q => ∃ i j, xs = [.int i, .int j] ∧ Q (.int (if j > i then j else i)) H) max2D := fun g H S Q ds vs d m r h q => by
  unfold max2D at h
  split at h
  · cases h
    cases r with
    | cons r rs =>
      cases rs with
      | cons r2 rs =>
        cases rs
        cases r
        cases r2
        exact ⟨_, _, rfl, q _ H g Ext.refl m (.int _)⟩
  · cases h
theorem dMin2 : DCall X.K (fun xs H Q => ∃ i j, xs = [.int i, .int j] ∧ Q (.int (if j < i then j else i)) H) min2D := fun g H S Q ds vs d m r h q => by
  unfold min2D at h
  split at h
  · cases h
    cases r with
    | cons r rs =>
      cases rs with
      | cons r2 rs =>
        cases rs
        cases r
        cases r2
        exact ⟨_, _, rfl, q _ H g Ext.refl m (.int _)⟩
  · cases h
def int1D : List D → Option D
  | [.int i] => some (.int i)
  | [.bl k] => some (.int (if k then 1 else 0))
  | _ => none
theorem dInt1 : DCall X.K (fun xs H Q => (∃ i, xs = [.int i] ∧ Q (.int i) H) ∨ ∃ k, xs = [.bl k] ∧ Q (.int (if k then 1 else 0)) H) int1D := fun g H S Q ds vs d m r h q => by
  unfold int1D at h
  split at h
  · cases h
    cases r with
    | cons r rs =>
      cases rs
      cases r
      exact .inl ⟨_, rfl, q _ H g Ext.refl m (.int _)⟩
  · cases h
    cases r with
    | cons r rs =>
      cases rs
      cases r
      exact .inr ⟨_, rfl, q _ H g Ext.refl m (.int _)⟩
  · cases h
end
end Dg

namespace Dg
open PySem PySem.Spec PyProof.Rows L2
/-! ### enumerate of a tuple -/
section
open Sem (wp)
open AutoSeq1 (wpAny_loadPart')
theorem meets_enumT (l : Addr) (items : Array Value) (n : Nat) (dct : Option Addr) (sl : Array (Option Value)) :
    Meets (Builtin.«enumerate.__new__» ⟨[.type "enumerate", .ref l], []⟩) (fun _ R s =>
      s.heap.get? l = some { cls := .type "tuple", dict := dct, data := .seq items n, slots := sl } ∧
      R (.ok (.ret (.ref (s.heap.push { cls := .type "tuple_iterator", data := .fields #[.ref l, .int 0 0] }).objs.size)))
        { s with heap := (s.heap.push { cls := .type "tuple_iterator", data := .fields #[.ref l, .int 0 0] }).push { cls := .type "enumerate", data := .fields #[.none, .bool false, .ref s.heap.objs.size, rawInt 0, .none, .none] } }) :=
  .of_wp fun prog w A R s h => by
    obtain ⟨hp, gens, drawn, tk, os⟩ := s
    obtain ⟨hl, h⟩ := h
    have hsub := sub_enumerate
    have hT : Heap.IsTuple (Shared.heap ⟨hp, gens, drawn, tk, os⟩) l items := ⟨_, hl, rfl, n, rfl⟩
    wp_walk using wpAny_loadPart' hl
    refine wpAny_stack_any fun st => wpAny_pure ?_
    split
    · rename_i c _ _ _ _ _
      cases (c == Value.type "enumerate") <;>
      · wp_walk using wpAny_loadPart' hl, wpAny_pyIter_tuple hT
        exact ⟨_, rfl, h⟩
    · wp_walk using wpAny_loadPart' hl, wpAny_pyIter_tuple hT
      exact ⟨_, rfl, h⟩
end
section
variable {prog : Program} {w : World} {A : Around} {Ex : Value → Shared → Prop} {s : Shared}
theorem call_enumT {l : Addr} {items : Array Value} {Q : Value → Shared → Prop} (hL : s.heap.IsTuple l items)
    (h : ∀ h', IsEnum h' (s.heap.objs.size + 1) s.heap.objs.size 0 .none → h'.IsTupleIter s.heap.objs.size l 0 → (∀ b o, s.heap.get? b = some o → h'.get? b = some o) → Q (.ref (s.heap.objs.size + 1)) { s with heap := h' }) :
    wpAny (model prog w) A (call (.type "enumerate") [.ref l]) Q Ex s := by
  obtain ⟨⟨c, dct, dt, sl⟩, hl, hc, n, hd⟩ := hL
  obtain rfl : c = .type "tuple" := hc
  obtain rfl : dt = .seq items n := hd
  have up : ∀ ob : Obj, (s.heap.push ob).objs.size = s.heap.objs.size + 1 := fun ob => Heap.size_push ..
  refine callType_new F.called_enumerate (by decide) (F.typeCall_enumerate_1 _) (F.newCall_enumerate_1 _) (fun obj => F.args_object_init_2 obj _) F.entry_enumerate_new (meets_enumT l items n dct sl) ⟨hl, ?_⟩
  show _ ∧ _
  rw [up]
  have he := Heap.get?_push_size (s.heap.push { cls := .type "tuple_iterator", data := .fields #[.ref l, .int 0 0] })
    (o := { cls := .type "enumerate", data := .fields #[.none, .bool false, .ref s.heap.objs.size, rawInt 0, .none, .none] }) rfl
  rw [up] at he
  have hit := Heap.get?_push_size s.heap (o := { cls := .type "tuple_iterator", data := .fields #[.ref l, .int 0 0] }) rfl
  exact ⟨⟨_, he, rfl⟩, h _ he ⟨_, Heap.get?_push_of_some _ hit, rfl, rfl⟩ fun b o x => Heap.get?_push_of_some _ (Heap.get?_push_of_some _ x)⟩
end
def ItEt (K : PySem.W.Frag) (a : Addr) : It where
  go := fun i H => ∃ (xs : List V) (x : V), SqT K H a xs ∧ xs[i]? = some x
  yld := fun i H v H' => ∃ T x, v = .ref T ∧ H T = none ∧ H' = upd H T (.tup [.int (i : Nat), x]) ∧ ∀ xs, SqT K H a xs → xs[i]? = some x
  stop := fun i H => ∃ xs : List V, SqT K H a xs ∧ xs.length = i
theorem turn_enumT {P : Program} {w : World} {K : PySem.W.Frag} {elts : List Expr} {kk : Nat} {tpos : Pos} (a e it : Addr) :
    Turn P w K (.Tuple elts kk tpos) (ItEt K a) [e, it] e (fun i h => (∃ old, IsEnum h e it ((i : Nat) : Int) old) ∧ h.IsTupleIter it a i ∧ e ≠ it) where
  mem := by simp
  obj := fun i h ⟨⟨old, he⟩, ⟨o, ho, hc, hd⟩, _⟩ b hb => by
    rcases (show b = e ∨ b = it by simpa using hb) with z | z <;> subst z
    · exact ⟨_, he, fun v q => nomatch q⟩
    · exact ⟨o, ho, fun v q => (by rw [hd] at q; cases q)⟩
  keep := fun i h h' ⟨⟨old, he⟩, hi, hne⟩ k => ⟨⟨old, k e (by simp) _ he⟩, hi.at fun o q => k it (by simp) o q, hne⟩
  item := by
    intro X hP hw hK hc i pins s σ H E I hf st hg
    subst hP hw hK
    obtain ⟨⟨old, he⟩, hit, hne⟩ := st
    obtain ⟨xs, x, hq, hx⟩ := hg
    obtain ⟨its, rv, tp, hz⟩ := I.tuple hq
    obtain ⟨u, hu, ru⟩ := rv.get hx
    have hel : e < s.heap.objs.size := Heap.lt_size he
    have hil : it < s.heap.objs.size := by obtain ⟨_, q, _⟩ := hit; exact Heap.lt_size q
    have hTup : s.heap.IsTuple a its.toArray := tp
    have nea : ∀ b ∈ [e, it], a ≠ b := fun b hb z => by
      obtain ⟨o, ho, hc1, n, hd⟩ := hTup
      rcases (show b = e ∨ b = it by simpa using hb) with y | y <;> subst y <;> subst z
      · rw [he] at ho
        cases ho
        cases hd
      · obtain ⟨o2, ho2, _, hd2⟩ := hit
        rw [ho] at ho2
        cases ho2
        rw [hd] at hd2
        cases hd2
    have hlt : i < its.toArray.size := by simpa using (List.getElem?_eq_some_iff.mp hu).1
    have D := Draws.tuple (prog := X.prog) (w := X.w) (A := X.A.in1) (I.ok.hd hc) it a (nea it (by simp)) its.toArray
    refine wpAny_pyNext_enum_itemD D he ⟨hit, hTup⟩ hlt hne (by simp only [List.mem_cons, List.not_mem_nil, or_false, not_or]; exact ⟨hne, fun z => nea e (by simp) z.symm⟩) fun y h' tk hy ho hit' hT hsz hk => ?_
    have ey : y = u := by
      have e1 : its.toArray[i]? = some y := hy
      have e2 : its.toArray[i]? = some u := by simpa using hu
      rw [e2] at e1
      cases e1
      rfl
    subst ey
    refine ⟨_, rfl, wpAny_letOwnedTupleGo_enum (s := { s with heap := h', toks := tk + 1 }) ho fun h'' he' sb => ?_⟩
    have hT2 : h''.get? s.heap.objs.size = some { cls := .type "tuple", data := .seq #[.int i tk, y] } := (sb.2 _ (Nat.ne_of_gt hel)).trans hT
    have new : ObjOk X.prog X.w (upd H s.heap.objs.size (.tup [.int (i : Nat), x])) h'' s.heap.objs.size (.tup [.int (i : Nat), x]) :=
      ⟨by show 2 ≤ sizeLine; decide, [.int i tk, y], .cons ⟨_, rfl⟩ (.cons ru .nil), ⟨_, hT2, rfl, _, rfl⟩⟩
    have kept : ∀ b ob, b ∉ [e, it] → s.heap.get? b = some ob → h''.get? b = some ob := fun b ob hb q => by
      simp only [List.mem_cons, List.not_mem_nil, or_false, not_or] at hb
      exact (sb.2 b hb.1).trans (hk b ob hb.1 hb.2 q)
    have I1 : L2.Inv X pins σ (upd H s.heap.objs.size (.tup [.int (i : Nat), x])) { s with heap := h'', toks := tk + 1 } := I.turnedNew (ch := [e, it]) kept hf (Nat.le_refl _) new
    refine ⟨.ref s.heap.objs.size, _, I1, rfl, ⟨_, x, rfl, I.hok.fresh (Nat.le_refl _), rfl, fun ys hy => by rw [I.tuple_inj hy hq]; exact hx⟩, ⟨⟨y, ?_⟩, hit'.1.at fun o q => (sb.2 it (Ne.symm hne)).trans q, hne⟩, fun b hb => ?_⟩
    · rw [show ((i + 1 : Nat) : Int) = (i : Int) + 1 by omega]
      exact he'
    · have hb' : b < s.heap.objs.size := by
        rcases (show b = e ∨ b = it by simpa using hb) with z | z <;> subst z
        · exact hel
        · exact hil
      rw [upd_ne (Nat.ne_of_lt hb')]
      exact (hf b hb).1
  done := by
    intro X hP hw hK hc i pins s σ H E I hf st hg
    subst hP hw hK
    obtain ⟨⟨old, he⟩, hit, hne⟩ := st
    obtain ⟨xs, hq, hx⟩ := hg
    obtain ⟨its, rv, tp, hz⟩ := I.tuple hq
    have hTup : s.heap.IsTuple a its.toArray := tp
    have nea : a ≠ it := fun z => by
      obtain ⟨o, ho, _, n, hd⟩ := hTup
      obtain ⟨o2, ho2, _, hd2⟩ := hit
      subst z
      rw [ho] at ho2
      cases ho2
      rw [hd] at hd2
      cases hd2
    obtain ⟨f0, f1, f2, f3, f4, f5⟩ := hf it (by simp)
    have hl := rv.length
    have en : i = its.toArray.size := by rw [List.size_toArray, ← hl]; exact hx.symm
    have D := Draws.tuple (prog := X.prog) (w := X.w) (A := X.A.in1) (I.ok.hd hc) it a nea its.toArray
    refine wpAny_pyNext_enum_endD D he ⟨by rw [← en]; exact hit, hTup⟩ fun h' eb => ?_
    exact ⟨rfl, I.turned (t' := s.toks) (fun b o hb q => eb b o hb q) f0 f1 f3 f4 f5⟩
  self := fun A i s Q E ⟨⟨_, he⟩, _⟩ h => wpAny_pyIter_enum he h
section
variable {X : Cx} {E : WK} {e tg : Expr} {ma : EM} {mr : AM} {p pos tpos : Pos} {elts : List Expr} {kk : Nat}
def iEnumT (K : PySem.W.Frag) (ta : TA) : TI := fun σ H R => ta σ H fun vs H1 => ∃ a xs, vs = [.ref a] ∧ SqT K H1 a xs ∧ R (ItEt K a) H1
theorem pi_enumT {ta : TA} (hg : Gl X "enumerate") (hm : X.mg "enumerate" = none) (ha : PA X [e] ta) (hs : starEach [e] X.env = [(false, eval e X.env)] := by rfl) : PI X (.Tuple elts kk tpos) (.Call (.Name "enumerate" p) [e] [] pos) (iEnumT X.K ta) := by
  refine ⟨fun pins s σ H R I h => Call_ (ld_blt I hg hm boot_enumerate (PyProof.Rows.callWith_type1 (thn (ha.run pos pins s σ H _ I h) fun us s1 ⟨vs, H1, I1, r1, a, xs, ex, hq, q⟩ => ?_) hs rfl))⟩
  subst ex
  cases r1 with
  | cons r rr =>
    cases rr
    cases r
    obtain ⟨its, rv, tp, hz⟩ := I1.tuple hq
    refine call_enumT (items := its.toArray) tp fun h' he hit hk => wpAny_pyIter_enum he ?_
    refine ⟨s1.heap.objs.size + 1, [s1.heap.objs.size + 1, s1.heap.objs.size], _, _, H1, rfl, I1.kept (t' := s1.toks) hk, turn_enumT a (s1.heap.objs.size + 1) s1.heap.objs.size, ⟨⟨.none, he⟩, hit, Nat.succ_ne_self _⟩, fun b hb => ?_, q⟩
    have hle : s1.heap.objs.size ≤ b := by
      rcases (show b = s1.heap.objs.size + 1 ∨ b = s1.heap.objs.size by simpa using hb) with z | z <;> subst z
      · exact Nat.le_succ _
      · exact Nat.le_refl _
    exact I1.fpOk hle (I1.hok.fresh hle)
def enumL (ds : List D) : List D := ds.zipIdx.map fun q => .tup [.int ((q.2 : Nat) : Int), q.1]
theorem enumL_at {ds : List D} {i : Nat} {d : D} (h : (enumL ds)[i]? = some d) : ∃ x, ds[i]? = some x ∧ d = .tup [.int ((i : Nat) : Int), x] := by
  unfold enumL at h
  rw [List.getElem?_map, Option.map_eq_some_iff] at h
  obtain ⟨q, h1, rfl⟩ := h
  rw [List.getElem?_zipIdx] at h1
  obtain ⟨x, h2, rfl⟩ := Option.map_eq_some_iff.mp h1
  exact ⟨x, h2, by simp⟩
theorem enumL_length (ds : List D) : (enumL ds).length = ds.length := by unfold enumL; simp
theorem iter_enumT {K : PySem.W.Frag} {g : G} {a : Addr} {vs : List V} {ds : List D} (hs : SqT K g.B a vs) (r : Reps K g vs ds) : IterB K (ItEt K a) g (enumL ds) := fun H' S' g' l m => by
  have h2 : SqT K H' a vs := sqT_mono (l.B.trans m.same) hs
  refine ⟨fun i d e => ?_, ⟨vs, h2, by rw [r.length, enumL_length]⟩⟩
  obtain ⟨x, e1, rfl⟩ := enumL_at e
  obtain ⟨v, e2, r1⟩ := r.at e1
  refine ⟨⟨vs, v, h2, e2⟩, fun u H'' ⟨T, y, q1, q2, q3, q4⟩ => ?_⟩
  have q5 := q4 vs h2
  rw [e2] at q5
  cases q5
  subst q1 q3
  obtain ⟨x4, m4⟩ := laidB (o := .tup [.int ((i : Nat) : Int), v]) m q2
  exact ⟨_, x4, m4, .tup (.of upd_same) (.cons (.int _) (.cons ((r1.mono l).mono x4.le) .nil))⟩
theorem iter_enumL {K : PySem.W.Frag} {g : G} {a : Addr} {vs : List V} {ds : List D} (hs : SqL K g.B a vs) (r : Reps K g vs ds) : IterB K (Ite K a) g (enumL ds) := fun H' S' g' l m => by
  have h2 : SqL K H' a vs := (l.B.trans m.same).seq hs
  refine ⟨fun i d e => ?_, ⟨vs, h2, by rw [r.length, enumL_length]; exact Nat.le_refl _⟩⟩
  obtain ⟨x, e1, rfl⟩ := enumL_at e
  obtain ⟨v, e2, r1⟩ := r.at e1
  refine ⟨⟨vs, v, h2, e2⟩, fun u H'' ⟨T, y, q1, q2, q3, q4⟩ => ?_⟩
  have q5 := q4 vs h2
  rw [e2] at q5
  cases q5
  subst q1 q3
  obtain ⟨x4, m4⟩ := laidB (o := .tup [.int ((i : Nat) : Int), v]) m q2
  exact ⟨_, x4, m4, .tup (.of upd_same) (.cons (.int _) (.cons ((r1.mono l).mono x4.le) .nil))⟩
def aEnum (m : EM) : AM := fun env S => (m env S).bind fun d S1 => (ofO (itemsD d) S1).bind fun ds S2 => .ok (enumL ds) S2
theorem ji_enum (hg : Gl X "enumerate") (hm : X.mg "enumerate" = none) (h : JE X E e ma) (hs : starEach [e] X.env = [(false, eval e X.env)] := by rfl) : JI X E (.Tuple elts kk tpos) (.Call (.Name "enumerate" p) [e] [] pos) (aEnum ma) :=
  ⟨weakI (orI (pi_enum hg hm (pa_cons h.pe pa_nil hs) hs) (pi_enumT hg hm (pa_cons h.pe pa_nil hs) hs)) fun σ H R ⟨env, S, g, sr, q⟩ => by
  have q := q.bind
  cases hm : ma env S with
  | bad => rw [hm] at q; exact q.elim
  | raise x S1 => rw [hm] at q; exact .inl ⟨env, S, g, sr, by rw [hm]; exact q⟩
  | ok d S1 =>
    rw [hm] at q
    obtain ⟨ds, hd, q2⟩ := Res.ofO (Res.bind q)
    cases d <;> simp only [itemsD, Option.some.injEq, reduceCtorEq] at hd
    · subst hd
      refine .inr ⟨env, S, g, sr, by
        rw [hm]
        intro v H1 g1 x1 m1 r1
        cases r1 with
        | tup h1 r2 => exact ⟨_, _, rfl, sqT_mono m1.same h1, q2 _ H1 g1 x1 m1 (iter_enumT h1 r2)⟩⟩
    · subst hd
      refine .inl ⟨env, S, g, sr, by
        rw [hm]
        intro v H1 g1 x1 m1 r1
        cases r1 with
        | lst h1 r2 => exact ⟨_, _, rfl, SqL.of (m1.same _ _ h1), q2 _ H1 g1 x1 m1 (iter_enumL (SqL.of h1) r2)⟩⟩
    · subst hd
      refine .inl ⟨env, S, g, sr, by
        rw [hm]
        intro v H1 g1 x1 m1 r1
        cases r1 with
        | scr h1 r2 => exact ⟨_, _, rfl, m1.same.seq h1, q2 _ H1 g1 x1 m1 (iter_enumL h1 r2)⟩⟩⟩
end
end Dg

namespace Dg
open PySem PySem.Spec PyProof.Rows L2
/-! ### defs of the law's own: nothing is being shown around them -/
structure FnG (P : Program) (w : World) (K : PySem.W.Frag) (mg : Str → Option Value) (base : Heap) (k : Nat) (f : Addr) (fd : FuncData) (ps : List Str) (sp : Sp) : Prop where
  len : ∀ vs H Q E, sp vs H Q E → vs.length = ps.length
  run : ∀ (A : Around) (outer : List Env) (s : Shared) (H : Hp) (args : Args) (us : List Value) (vs : List V) (Q : VK) (E : XK), Room k A → A.guards = some [] → Env0 P w K mg base A outer s H →
    BindsTo s fd args (ps.zip us) → Vals vs us → sp vs H Q E → codeAny (model P w) A (.call (.ref f) args) (CR (L2.CX P w) outer P w H s Q E) s
section
variable {P : Program} {w : World} {K : PySem.W.Frag} {mg : Str → Option Value} {base : Heap}
theorem FnG.of {k : Nat} {f : Addr} {fd : FuncData} {ps : List Str} {sp : Sp} (F : FnOk P w K mg base (L2.CX P w) k f fd ps sp) : FnG P w K mg base k f fd ps sp := ⟨F.len, fun A outer s H args us vs Q E hr _ => F.run A outer s H args us vs Q E hr⟩
abbrev FnP (K : PySem.W.Frag) (x qual : Str) (st : Stmt) (f : Addr) (fd : FuncData) : Prop := FunD K x qual (defArgs st) (defBody st) (defScope st) [] [] f fd
theorem okG0 {x qual : Str} {st : Stmt} {f : Addr} {fd : FuncData} {N ps : List Str} {k : Nat} {sp : Sp} (F : FnP K x qual st f fd) (Sc : FnScope N ps (defScope st)) (len : ∀ vs H Q E, sp vs H Q E → vs.length = ps.length)
    (hbody : ∀ (cdv : Value) (A : Around) (outer : List Env) (s : Shared) (H : Hp) (vs : List V) (Q : VK) (E : XK), Room k (A.deeper (envOfC qual (defScope st) s.heap.objs.size f cdv)) → A.guards = some [] → sp vs H Q E →
      ∃ t, PSs (cxOf (L2.CX P w) P w K mg base N qual (defScope st) f cdv A outer s H E) (defBody st) t ∧ t { nx := fun _ H' => Q .non H', rt := Q } (L2.start N vs) H) : FnG P w K mg base (k + 1) f fd ps sp := by
  obtain ⟨oc, od, dV, kV, doc, pm, an, cdv, ct, osl, rfl, lk, hcd, _, _⟩ := F.ex
  refine ⟨len, fun A outer s H args us vs Q E hr hgu e0 hb r hsp => ?_⟩
  have seen : ∀ b o, base.get? b = some o → s.heap.get? b = some o := fun b o e => (e0.bs b o e).1
  have KX : K.In s.heap := e0.mod.kin.keeps seen
  have pars : ∀ y ∈ ps.zip us, (defScope st).names.lookup y.1 = some .local ∨ ((defScope st).names.lookup y.1 = some .cell ∧ ((cellsFrom (s.heap.objs.size + 1) (defScope st).names []).lookup y.1).isSome = true) := fun ⟨n, v⟩ hy =>
    (Sc.par n (List.of_mem_zip hy).1).imp id fun q => ⟨q, PySem.W.cellsFrom_some _ _ _ (.inl q)⟩
  have room := hr.depth
  refine codeAny_call_function room (KX _ _ lk) rfl Sc.co Sc.gen rfl (PySem.W.codeRec_of KX hcd) (hb _ _ _ _ ?_)
  refine wpAny_newFunctionEnv_cells Sc.kind pars fun env he s1 x => ?_
  subst he
  refine ⟨(e0.mod.nolimit.keeps seen).keeps x.toInCall.keep, codeAny_func ?_⟩
  obtain ⟨t, ht, hq⟩ := hbody cdv A outer s H vs Q E (hr.deeper _) hgu hsp
  have I := inv_start (CX := L2.CX P w) (E := E) Sc hr.hd e0 (len _ _ _ _ hsp) r x
  refine wpAny_mono (ht.run [] s1 (L2.start N vs) H _ I hq) (fun fl s' hs => ?_) fun e s' hs => hs
  cases fl with
  | ret u =>
    obtain ⟨v, σ', H', J, rv, q⟩ := hs
    exact ⟨v, H', J.os, J.bare, J.base, J.hok, rv, q⟩
  | next =>
    obtain ⟨σ', H', J, q⟩ := hs
    exact ⟨.non, H', J.os, J.bare, J.base, J.hok, rfl, q⟩
  | brk => exact (hs.choose_spec.choose_spec).2.elim
  | cont => exact (hs.choose_spec.choose_spec).2.elim
/-- a def by its body: from where the exceptions go, what the body asks of a start -/
theorem body_of {x qual : Str} {st : Stmt} {f : Addr} {N ps : List Str} {n : Nat} {m : SM} {cdv : Value} {A : Around} {outer : List Env} {s : Shared} {H : Hp} {E : XK} {vs : List V} {Q : VK} (hn : N.length = n)
    (h : spM K ps.length (runM n m) vs H Q E) : tS K (fun _ => E) m { nx := fun _ H' => Q .non H', rt := Q } (L2.start N vs) H := by
  obtain ⟨ds, S, g, sm, r, hl, q⟩ := h
  obtain ⟨sr, nl⟩ := sr_start (N := N) sm r
  rw [hn] at sr nl
  refine ⟨_, S, g, sr, ?_⟩
  have toE : ∀ {L' : Addr → Prop} {g' : G} {H' : Hp}, Ext (Lv (L2.start N vs) (ds.map Slot.val ++ List.replicate (n - ds.length) Slot.no)) g H L' g' H' → ExE g H g' H' := fun {L' g' H'} x =>
    ⟨x.le, fun a o h n _ => x.kp a o h n (nl a), x.dom, fun a o h n => (x.fB a o h n).elim (fun z => (nl a z).elim) .inr, x.fA, fun _ h => h.elim⟩
  unfold runM at q
  cases ho : m (ds.map Slot.val ++ List.replicate (n - ds.length) Slot.no) S with
  | nx env' S' =>
    rw [ho] at q
    exact fun σ' H' g' x' s' => q .non H' g' (toE x') s'.m .non
  | rt d S' =>
    rw [ho] at q
    exact fun v H' g' x' m' r' => q v H' g' (toE x') m' r'
  | rs x env' S' =>
    rw [ho] at q
    exact fun σ' dx H' g' x' s' h => q dx H' g' (toE x') s'.m h
  | bk _ _ => rw [ho] at q; exact q.elim
  | ct _ _ => rw [ho] at q; exact q.elim
  | bad => rw [ho] at q; exact q.elim
theorem spM_len {n : Nat} {fm : List D → Sto → Out D} : ∀ vs H Q E, spM K n fm vs H Q E → vs.length = n := fun vs H Q E ⟨ds, S, g, m, r, hl, _⟩ => by rw [r.length, hl]
abbrev BodyCx (P : Program) (w : World) (K : PySem.W.Frag) (mg : Str → Option Value) (base : Heap) (N : List Str) (qual : Str) (st : Stmt) (f : Addr) (cdv : Value) (A : Around) (outer : List Env) (s : Shared) (H : Hp) (E : XK) : Cx :=
  cxOf (L2.CX P w) P w K mg base N qual (defScope st) f cdv A outer s H E
theorem okD {x qual : Str} {st : Stmt} {f : Addr} {fd : FuncData} {N ps : List Str} {k n : Nat} {m : SM} (F : FnP K x qual st f fd) (Sc : FnScope N ps (defScope st)) (hn : N.length = n)
    (hb : ∀ (cdv : Value) (A : Around) (outer : List Env) (s : Shared) (H : Hp) (E : XK), Room k (A.deeper (envOfC qual (defScope st) s.heap.objs.size f cdv)) → JB (BodyCx P w K mg base N qual st f cdv A outer s H E) (fun _ => E) (defBody st) m) :
    FnOk P w K mg base (L2.CX P w) (k + 1) f fd ps (spM K ps.length (runM n m)) :=
  F.ok Sc spM_len fun cdv A outer s H vs Q E hr h => ⟨_, (hb cdv A outer s H E hr).pb, body_of (x := x) (qual := qual) (st := st) (f := f) (cdv := cdv) (A := A) (outer := outer) (s := s) hn h⟩
theorem okG {x qual : Str} {st : Stmt} {f : Addr} {fd : FuncData} {N ps : List Str} {k n : Nat} {m : SM} (F : FnP K x qual st f fd) (Sc : FnScope N ps (defScope st)) (hn : N.length = n)
    (hb : ∀ (cdv : Value) (A : Around) (outer : List Env) (s : Shared) (H : Hp) (E : XK), Room k (A.deeper (envOfC qual (defScope st) s.heap.objs.size f cdv)) → A.guards = some [] → JB (BodyCx P w K mg base N qual st f cdv A outer s H E) (fun _ => E) (defBody st) m) :
    FnG P w K mg base (k + 1) f fd ps (spM K ps.length (runM n m)) :=
  okG0 F Sc spM_len fun cdv A outer s H vs Q E hr hgu h => ⟨_, (hb cdv A outer s H E hr hgu).pb, body_of (x := x) (qual := qual) (st := st) (f := f) (cdv := cdv) (A := A) (outer := outer) (s := s) hn h⟩
end
section
variable {X : Cx} {E : WK} {x : Str} {p pos : Pos} {e : Expr} {es : List Expr} {mr : AM} {k n : Nat} {f : Addr} {fd : FuncData} {ps : List Str} {fm : List D → Sto → Out D}
theorem pe_callG {sp : Sp} {ES : L2.St → XK} {t : TA} (F : FnG X.prog X.w X.K X.mg X.base k f fd ps sp) (hr : Room k X.A) (hgu : X.A.guards = some []) (hg : Gl X x) (hm : X.mg x = some (.ref f)) (hk : PySem.W.keepIn X.K (.ref f) = true) (hb : Binds X.K fd ps []) (hx : ∀ σ, PassesAt (L2.CX X.prog X.w) X σ (ES σ))
    (ha : PA X (e :: es) t) (hdb : (x == ("__debug__" : Str)) = false := by decide) (he : starEach (e :: es) X.env = (false, eval e X.env) :: starEach es X.env := by rfl) (hpl : (backTo pos (starEach es X.env)).any (·.1) = false := by rfl) :
    PE X (.Call (.Name x p) (e :: es) [] pos) (fun σ H Q => t σ H fun vs H1 => sp vs H1 Q (ES σ)) := by
  refine ⟨fun pins s σ H Q I h => wpAny_Call_Name_kw (ld_glob I hg hm (PySem.W.callWith_K (h₀ := X.base) I.ok.mod.kin hk (thn (ha.run pos pins s σ H _ I h) fun us s1 ⟨vs, H1, I1, r, q⟩ => ⟨I1.kIn, ?_⟩) he hpl) hdb)⟩
  have hl : us.length = ps.length := by rw [← r.length]; exact F.len _ _ _ _ q
  have bind := hb s1 us I1.kIn (by simpa using hl)
  rw [List.append_nil] at bind
  refine wpAny_call (codeAny_mono (F.run X.A X.stack s1 H1 ⟨us, []⟩ us vs Q (ES σ) hr hgu I1.env0 bind r q) fun res s' hq => ?_)
  cases res with
  | error z => exact hx σ pins H1 s1 z s' I1 hq
  | ok fl => cases fl <;> first | exact I1.after hq | exact False.elim hq
theorem je_callG (F : FnG X.prog X.w X.K X.mg X.base k f fd ps (spM X.K n fm)) (hr : Room k X.A) (hgu : X.A.guards = some []) (hg : Gl X x) (hm : X.mg x = some (.ref f)) (hk : PySem.W.keepIn X.K (.ref f) = true) (hb : Binds X.K fd ps []) (hx : ∀ σ, PassesAt (L2.CX X.prog X.w) X σ (E σ))
    (ha : JA X E (e :: es) mr) (hdb : (x == ("__debug__" : Str)) = false := by decide) (he : starEach (e :: es) X.env = (false, eval e X.env) :: starEach es X.env := by rfl) (hpl : (backTo pos (starEach es X.env)).any (·.1) = false := by rfl) :
    JE X E (.Call (.Name x p) (e :: es) [] pos) (eCall n fm mr) := ⟨weakE (pe_callG F hr hgu hg hm hk hb hx ha.pa hdb he hpl) fun σ H Q ⟨env, S, g, sr, q⟩ =>
  ⟨env, S, g, sr, q.bind.mono (fun ds S1 q1 vs H1 g1 x1 m1 r1 => by
    obtain ⟨hl, q2⟩ := q1.ifO
    exact ⟨ds, S1, g1, m1, r1, by simpa using hl, q2.mono (fun d S2 q3 v H' g' x' m' r' => q3 v H' g' (x1.trans x') m' r') fun _ _ h => h.step x1⟩) fun _ _ h => h⟩⟩
end
/-! ### the end: the law's call -/
theorem lawG {P : Program} {w : World} {K : PySem.W.Frag} {mg mb : Str → Option Value} {k : Nat} {fa a : Addr} {fd : FuncData} {x : Str} {sp : Sp} {s : Shared} {vs : List Value} {ns : List Int} (KX : K.In s.heap) (hns : s.heap.Ns mainGlobals mg)
    (hb : s.heap.Ns builtinsNs mb) (hbb : ∀ x : Str, x ≠ "__name__" → mb x = bootBuiltins x) (hlim : s.heap.NoLimit) (hg : s.gens = #[]) (ha : s.heap.get? a = some { cls := .type "list", data := .seq vs.toArray }) (hi : IntsAre vs ns) (hl : ns.length ≤ sizeLine)
    (hr : Room k callerA) (F : ∀ base : Heap, K.In base → base.Ns mainGlobals mg → FnG P w K mg base k fa fd [x] sp) (hbind : ∀ (s : Shared) (u : Value), BindsTo s fd ⟨[u], []⟩ [(x, u)])
    (hsp : ∀ H : Hp, Only H → SqL K H a (ns.map V.int) → sp [.ref a] H (fun v _ => v = .bl true) fun _ _ _ => False) :
    codeAny (model P w) callerA (.call (.ref fa) ⟨[.ref a], []⟩) (fun r s' => r = .ok (.ret (.bool true)) ∧ OldK s.heap s'.heap ∧ s'.os = s.os ∧ AllBare s'.gens) s := by
  have rv := vals_ints hi
  -- an abstract heap that tracks the script, or nothing
  have main : ∀ H : Hp, Only H → SqL K H a (ns.map V.int) → HOk P w H s.heap → (∀ b u, H b = some u → b = a ∧ K.lookup a = none) →
      codeAny (model P w) callerA (.call (.ref fa) ⟨[.ref a], []⟩) (fun r s' => r = .ok (.ret (.bool true)) ∧ OldK s.heap s'.heap ∧ s'.os = s.os ∧ AllBare s'.gens) s := fun H hO hS hok hA => by
    have notA : ∀ {b : Addr} {o : Obj}, s.heap.get? b = some o → (b = a → K.lookup a = none → False) → (hidT s.heap H).get? b = some o := fun {b o} e z => hidT_get e (by
      cases q : H b with
      | none => rfl
      | some u => exact (z (hA b u q).1 (hA b u q).2).elim)
    have isDict : ∀ {b : Addr} {o : Obj} {es : Array DictEntry} {ep : Nat}, s.heap.get? b = some o → o.data = .dict es ep → b = a → K.lookup a = none → False := fun {b o es ep} e d z _ => by
      subst z
      rw [ha] at e
      cases e
      cases d
    have ns' : ∀ {b : Addr} {m : Str → Option Value}, s.heap.Ns b m → (hidT s.heap H).Ns b m := fun {b m} ⟨o, es, ep, e, d, r⟩ => ⟨o, es, ep, notA e (isDict e d), d, r⟩
    have kin : K.In (hidT s.heap H) := fun b o e => notA (KX b o e) fun z n => by
      subst z
      rw [n] at e
      cases e
    obtain ⟨mc, l1, l2⟩ := hlim
    have hM : Mod K mg (hidT s.heap H) := ⟨kin, ns' hns, ⟨mb, ns' hb, hbb⟩, ⟨mc, ns' l1, l2⟩⟩
    have nof : ∀ {b : Addr}, b ∉ frs ([] : List Env) := fun {b} z => by simp [frs] at z
    have e0 : Env0 P w K mg (hidT s.heap H) callerA [] s H := ⟨rfl, hM, fun b o e => of_hidT e, Nat.le_of_eq (hidT_size _ _), trivial, fun b z => (nof z).elim, hok, .of_eq hg⟩
    have run := (F _ kin (ns' hns)).run callerA [] s H ⟨[.ref a], []⟩ [.ref a] [.ref a] _ _ hr rfl e0 (hbind s (.ref a)) (.cons rfl .nil) (hsp H hO hS)
    refine codeAny_mono run fun r s' h => ?_
    cases r with
    | error e =>
      obtain ⟨_, _, _, _, _, _, _, _, _, _, _, _, z⟩ := h
      exact z.elim
    | ok fl =>
      cases fl with
      | ret u =>
        obtain ⟨v, H', os, bare, un, hok', r', q'⟩ := h
        obtain rfl : v = .bl true := q'
        obtain rfl : u = Value.bool true := r'
        refine ⟨rfl, OldK.of_keep fun b o e => ?_, os, bare⟩
        rcases hO b with n | ⟨ob, xs, z⟩
        · exact un.keep b o e n nof (by simp)
        · have e1 := (hok b _ z).1
          have e2 := (hok' b _ (un.frzs b ob _ z)).1
          rw [e] at e1
          cases e1
          exact e2
      | next => exact False.elim h
      | brk => exact False.elim h
      | cont => exact False.elim h
  have lenV := hi.length
  cases hk : K.lookup a with
  | some o =>
    have e := KX a o hk
    rw [ha] at e
    cases e
    have rd : SqL K (fun _ => none) a (ns.map V.int) := .inr ⟨_, vs.toArray, _, hk, rfl, rfl, rfl, by rw [List.size_toArray, lenV]; exact hl, by simpa using rv⟩
    exact main (fun _ => none) (fun _ => .inl rfl) rd (fun b u z => nomatch (show (none : Option HO) = some u from z)) fun b u z => nomatch (show (none : Option HO) = some u from z)
  | none =>
    let scr : HO := .frz { cls := .type "list", data := .seq vs.toArray } (.lst (ns.map V.int))
    have one : ∀ b u, upd (fun _ => none) a scr b = some u → b = a ∧ u = scr := fun b u z => by
      by_cases hb : b = a
      · subst hb
        rw [upd_same] at z
        cases z
        exact ⟨rfl, rfl⟩
      · rw [upd_ne hb] at z
        cases z
    refine main (upd (fun _ => none) a scr) (fun b => ?_) (.inl (.inr ⟨_, upd_same⟩)) (fun b u z => ?_) fun b u z => ⟨(one b u z).1, hk⟩
    · by_cases hb : b = a
      · subst hb
        exact .inr ⟨_, _, upd_same⟩
      · exact .inl (by rw [upd_ne hb])
    · obtain ⟨rfl, rfl⟩ := one b u z
      exact ⟨ha, by rw [List.length_map]; exact hl, vs, _, rv, ha⟩
theorem walkG {l : PySem.W.OpenLaw} {n k : Nat} {q : Program} {loose : List Str} {XP : (Str → Option Value) → Heap → Prop} {YP : World → Heap → Prop} {d : DefRec} {x : Str} (hn : l.most = some n) (hn2 : n ≤ sizeLine) (hdf : d.params.defaults = []) (hr : Room k callerA)
    (F : ∀ (w : World) (mg : Str → Option Value) (fa : Addr) (h : Heap), YP w h → h.Ns mainGlobals mg → mg d.name = some (.ref fa) → ∃ (K : PySem.W.Frag) (fd : FuncData) (sp : Sp), K.In h ∧ (∀ (s : Shared) (u : Value), BindsTo s fd ⟨[u], []⟩ [(x, u)]) ∧
      (∀ (H : Hp) (a : Addr) (ns : List Int), ns.length ≤ n → Only H → SqL K H a (ns.map V.int) → sp [.ref a] H (fun v _ => v = .bl true) fun _ _ _ => False) ∧ ∀ base : Heap, K.In base → base.Ns mainGlobals mg → FnG l.prog w K mg base k fa fd [x] sp) :
    PySem.W.WalkO q loose XP YP l.row.toRowW d [] (fun f vs => PySem.call f vs) := by
  refine Att.attach_call hn hdf fun w s₀ s₁ mg mb fa o pm cd doc a vs ns G Y ho hd hcd hmg hobj hints hlen hg => ?_
  obtain ⟨K, fd, sp, KX, hb, hsp, hF⟩ := F w mg fa _ Y G.T.g hmg
  exact lawG KX G.T.g G.T.b G.T.builtins G.T.nolimit hg hobj hints (Nat.le_trans hlen hn2) hr hF hb fun H hO hS => hsp H a ns hlen hO hS
end Dg

namespace Dg
open PySem PySem.Spec PyProof.Rows L2
/-! ### repr of plain data -/
def rRepr (K : PySem.W.Frag) : List V → Hp → VK → Prop := fun xs H Q => ∃ x d, xs = [x] ∧ Dp K H x d ∧ d.showable = true ∧ d.depth ≤ 100 ∧ d.shown.length ≤ sizeLine ∧ d.hasDict = false ∧ Q (.str d.shown) H
theorem call_repr {X : Cx} {k : Nat} (hr : Room k X.A) (hg : X.A.guards = some []) : CallR X (.builtin "repr") (rRepr X.K) := by
  intro pins s σ H xs us Q I r h
  obtain ⟨x, d, rfl, hd, sh, dp, ln, nd, q⟩ := h
  obtain ⟨u, rfl, r1⟩ := vals1 r
  have fin : ∀ h' tk u', (∀ b o, s.heap.get? b = some o → h'.get? b = some o) → EP X pins σ Q (.str d.shown u') { s with heap := h', toks := tk } := fun h' tk u' k => ⟨.str d.shown, H, I.kept k, ⟨_, rfl⟩, q⟩
  have un : X.A.units + 200 < cLine := by have := hr.un; omega
  obtain ⟨as, rd⟩ := Dp.reads I d x u hd r1
  cases hd with
  | non =>
    cases r1
    exact P.repr_of_none (fin s.heap _ _ fun _ _ e => e)
  | bl b =>
    cases r1
    exact P.repr_of_bool (fin s.heap _ _ fun _ _ e => e)
  | int i =>
    obtain ⟨t, rfl⟩ := r1
    exact P.repr_of_int (by simpa [PyData.showable] using sh) (fin s.heap _ _ fun _ _ e => e)
  | str y =>
    obtain ⟨t, rfl⟩ := r1
    exact P.repr_of_str (fin s.heap _ _ fun _ _ e => e) ln
  | lst hs ha =>
    cases r1
    exact repr_of_reads' rd sh (PyData.noDict_hsm nd) hg (by omega) (fun _ _ e => e) (fun h' u' tk k => fin h' tk u' k) ln
  | tup hs ha =>
    cases r1
    exact repr_of_reads' rd sh (PyData.noDict_hsm nd) hg (by omega) (fun _ _ e => e) (fun h' u' tk k => fin h' tk u' k) ln
def shownD (p : PyData) : Option D := if p.showable = true ∧ p.depth ≤ 100 ∧ p.shown.length ≤ sizeLine ∧ p.hasDict = false then some (.str p.shown) else none
def reprD : List D → Option D
  | [d] => match toPy d with
    | some p => shownD p
    | none => none
  | _ => none
theorem dRepr {K : PySem.W.Frag} : DCall K (rRepr K) reprD := fun g H S Q ds vs d m r h q => by
  match ds, r with
  | [], _ => simp [reprD] at h
  | _ :: _ :: _, _ => simp [reprD] at h
  | [a], .cons r1 .nil =>
    simp only [reprD] at h
    cases e : toPy a with
    | none => rw [e] at h; cases h
    | some p =>
      rw [e] at h
      simp only [shownD] at h
      split at h
      · rename_i c
        cases h
        exact ⟨_, p, rfl, rep_dp m.same r1 e, c.1, c.2.1, c.2.2.1, c.2.2.2, q _ H g Ext.refl m (.str _)⟩
      · cases h
end Dg

namespace Dg
open PySem PySem.Spec PyProof.Rows L2
/-! ### a new list that is shared from now on -/
theorem shareF {K : PySem.W.Frag} {g : G} {H : Hp} {S : Sto} {l : Addr} {vs : List V} {ds : List D} {H0 : Hp} {g0 : G} (x : ExE g0 H0 g H) (m : SRm K H S g) (hl : H l = some (.lst vs)) (h0 : H0 l = none) (hB : g.B l = none) (hA : l ∉ g.al) (r : Reps K g vs ds) :
    ExE g0 H0 ⟨g.B, g.al ++ [l]⟩ H ∧ SRm K H (S ++ [.lst ds]) ⟨g.B, g.al ++ [l]⟩ ∧ Le g ⟨g.B, g.al ++ [l]⟩ := by
  have le : Le g ⟨g.B, g.al ++ [l]⟩ := ⟨Same.refl _, [l], rfl⟩
  refine ⟨⟨x.le.trans le, x.kp, x.dom, x.fB, fun a h => ?_, x.fL⟩, ⟨m.same, ?_, ?_, fun a h => ?_, fun k a o h1 h2 => ?_⟩, le⟩
  · rcases List.mem_append.mp h with z | z
    · exact x.fA a z
    · rw [List.mem_singleton.mp z]; exact .inr h0
  · show (g.al ++ [l]).length = _
    rw [List.length_append, List.length_append, m.len]
    rfl
  · refine List.nodup_append.mpr ⟨m.nd, by simp, fun a ha b hb e => ?_⟩
    rw [List.mem_singleton.mp hb] at e
    exact hA (e ▸ ha)
  · rcases List.mem_append.mp h with z | z
    · exact m.fr a z
    · rw [List.mem_singleton.mp z]; exact hB
  · have h1' : (g.al ++ [l])[k]? = some a := h1
    by_cases hk : k < g.al.length
    · rw [List.getElem?_append_left hk] at h1'
      rw [List.getElem?_append_left (by rw [← m.len]; exact hk)] at h2
      exact (m.mem k a o h1' h2).mono le fun _ z => z
    · have hk' : g.al.length ≤ k := Nat.le_of_not_lt hk
      rw [List.getElem?_append_right hk'] at h1'
      rw [List.getElem?_append_right (by rw [← m.len]; exact hk')] at h2
      have e0 : k - g.al.length = 0 := by
        have := (List.getElem?_eq_some_iff.mp h1').1
        simp at this
        exact this
      rw [e0] at h1'
      rw [← m.len, e0] at h2
      cases h1'
      cases h2
      exact ⟨vs, hl, r.mono le⟩
/-- the new list becomes a handle -/
def eNew (r : AM) : EM := fun env S => (r env S).bind fun xs S1 => .ok (.hnd S1.length) (S1 ++ [.lst xs])
theorem je_new {X : Cx} {E : WK} {e : Expr} {mr : AM} (h : JF X E e mr) : JE X E e (eNew mr) := ⟨weakE h.pe fun σ H Q ⟨env, S, g, sr, q⟩ =>
  ⟨env, S, g, sr, q.bind.mono (fun xs S1 q1 a vs H1 g1 x1 m1 hl h0 hb ha r1 => by
    obtain ⟨x2, m2, l2⟩ := shareF x1 m1 hl h0 hb ha r1
    refine q1 _ _ _ x2 m2 (.hnd ?_)
    show (g1.al ++ [a])[S1.length]? = _
    rw [← m1.len, List.getElem?_append_right (Nat.le_refl _), Nat.sub_self]
    rfl) fun _ _ h => h⟩⟩
/-! ### an owned list or dict is handed out -/
theorem pubO {K : PySem.W.Frag} {g : G} {H : Hp} {S : Sto} {l : Addr} {u : HO} {L : Addr → Prop} (m : SRm K H S g) (hl : H l = some u) (hL : L l) (hB : g.B l = none) (hA : l ∉ g.al) :
    Ext L g H NoL ⟨upd g.B l u, g.al⟩ H ∧ SRm K H S ⟨upd g.B l u, g.al⟩ ∧ Le g ⟨upd g.B l u, g.al⟩ := by
  have le : Le g ⟨upd g.B l u, g.al⟩ := ⟨fun b o h => by rw [show (⟨upd g.B l u, g.al⟩ : G).B = upd g.B l u from rfl, upd_ne (ne_of_none h hB)]; exact h, [], by simp⟩
  refine ⟨⟨le, fun a o h _ _ => h, fun a h => h, fun a o h n => ?_, fun a h => .inl h, fun _ h => h.elim⟩, ⟨fun b o h => ?_, m.len, m.nd, fun a h => ?_, fun k a o h1 h2 => (m.mem k a o h1 h2).mono le fun _ h => h⟩, le⟩
  · by_cases q : a = l
    · rw [q]; exact .inl hL
    · rw [show (⟨upd g.B l u, g.al⟩ : G).B = upd g.B l u from rfl, upd_ne q, n] at h
      cases h
  · by_cases q : b = l
    · rw [q] at h ⊢
      rw [show (⟨upd g.B l u, g.al⟩ : G).B = upd g.B l u from rfl, upd_same] at h
      rw [hl]
      exact h
    · rw [show (⟨upd g.B l u, g.al⟩ : G).B = upd g.B l u from rfl, upd_ne q] at h
      exact m.same _ _ h
  · show upd g.B l u a = none
    rw [upd_ne (fun q => hA (by rw [← q]; exact h))]
    exact m.fr a h
def pubD : MObj → Option D
  | .lst ds => some (.lst ds)
  | .dK kvs => some (.dK kvs)
  | .dT kvs => some (.dT kvs)
  | .ins _ _ => none
theorem mrep_pub {K : PySem.W.Frag} {g : G} {H : Hp} {a : Addr} {o : MObj} {d : D} (h : MRep K g H a o) (e : pubD o = some d) : ∃ u, H a = some u ∧ ∀ g', Le g g' → g'.B a = some u → Rep K g' (.ref a) d := by
  cases o with
  | lst ds => cases e; obtain ⟨vs, h1, r⟩ := h; exact ⟨_, h1, fun g' l hb => .lst hb (r.mono l)⟩
  | dK ds => cases e; obtain ⟨vs, h1, r⟩ := h; exact ⟨_, h1, fun g' l hb => .dK hb (r.mono l)⟩
  | dT ds => cases e; obtain ⟨vs, h1, r⟩ := h; exact ⟨_, h1, fun g' l hb => .dT hb (r.mono l)⟩
  | ins C fs => cases e
/-- return x, x an owned list or dict -/
def sRetL (i : Nat) : SM := fun env S => match (liveS env[i]?).bind pubD with
  | some d => .rt d S
  | none => .bad
theorem js_retL {X : Cx} {E : WK} {i : Nat} {e : Expr} {pos : Pos} (h : PE X e (tVar i)) : JS X E (.Return (some e) pos) (sRetL i) := ⟨weakS (ps_ret h) fun Dn σ H ⟨env, S, g, sr, q⟩ => by
  unfold sRetL at q
  cases ho : (liveS env[i]?).bind pubD with
  | none => rw [ho] at q; exact q.elim
  | some d =>
    rw [ho] at q
    obtain ⟨o, h1, h2⟩ := Option.bind_eq_some_iff.mp ho
    have hi := liveS_eq h1
    obtain ⟨a, e1, nB, nA, r⟩ := sr.lv i o hi
    obtain ⟨u, hu, hr⟩ := mrep_pub r h2
    obtain ⟨x, m, l⟩ := pubO (L := Lv σ env) sr.m hu ⟨i, o, hi, e1⟩ nB nA
    exact ⟨_, e1, q _ H _ x m (hr _ l upd_same)⟩⟩
/-! ### global constants -/
structure GRep (K : PySem.W.Frag) (u : Value) (d : D) : Prop where
  ex : ∃ v, RelV v u ∧ ∀ g, Rep K g v d
theorem GRep.int {K : PySem.W.Frag} {i : Int} {t : Tok} : GRep K (.int i t) (.int i) := ⟨⟨.int i, ⟨t, rfl⟩, fun _ => .int i⟩⟩
theorem je_gl {X : Cx} {E : WK} {x : Str} {u : Value} {d : D} {pos : Pos} (h : GRep X.K u d) (hg : Gl X x) (hm : X.mg x = some u) (hd : (x == ("__debug__" : Str)) = false := by decide) : JE X E (.Name x pos) (eRet d) := by
  obtain ⟨v, r, hr⟩ := h.ex
  exact xe_c (pe_glob hg hm r hd) hr
/-- a statement that is never reached -/
def sNo : SM := fun _ _ => .bad
theorem js_no {X : Cx} {E : WK} {st : Stmt} : JS X E st sNo := ⟨weakS ps_never fun Dn σ H ⟨env, S, g, sr, q⟩ => q⟩
/-! ### own defs by keywords alone -/
def permL {α : Type} (p : List Nat) (xs : List α) : List α := p.filterMap (xs[·]?)
theorem vals_at {vs : List V} {us : List Value} (h : Vals vs us) (i : Nat) : (vs[i]? = none ∧ us[i]? = none) ∨ ∃ v u, vs[i]? = some v ∧ us[i]? = some u ∧ RelV v u := by
  induction h generalizing i with
  | nil => exact .inl ⟨by simp, by simp⟩
  | cons r _ ih =>
    cases i with
    | zero => exact .inr ⟨_, _, rfl, rfl, r⟩
    | succ i => simpa using ih i
theorem vals_perm {p : List Nat} {vs : List V} {us : List Value} (h : Vals vs us) : Vals (permL p vs) (permL p us) := by
  induction p with
  | nil => exact .nil
  | cons i p ih =>
    unfold permL at ih ⊢
    rcases vals_at h i with ⟨a, b⟩ | ⟨v, u, a, b, r⟩
    · rw [List.filterMap_cons, List.filterMap_cons, a, b]; exact ih
    · rw [List.filterMap_cons, List.filterMap_cons, a, b]; exact .cons r ih
theorem reps_perm {K : PySem.W.Frag} {g : G} {p : List Nat} {vs : List V} {ds : List D} (h : Reps K g vs ds) : Reps K g (permL p vs) (permL p ds) := by
  induction p with
  | nil => exact .nil
  | cons i p ih =>
    unfold permL at ih ⊢
    cases e : ds[i]? with
    | none =>
      have e' : vs[i]? = none := by rw [List.getElem?_eq_none_iff] at e ⊢; rw [h.length]; exact e
      rw [List.filterMap_cons, List.filterMap_cons, e, e']; exact ih
    | some d =>
      obtain ⟨v, e1, r⟩ := h.at e
      rw [List.filterMap_cons, List.filterMap_cons, e, e1]; exact .cons r ih
structure JK (X : Cx) (E : WK) (kws : List Keyword) (m : AM) : Prop where
  pk : PK X kws (tA X.K E m)
theorem weakK {X : Cx} {e : List Keyword} {t t' : TA} (h : PK X e t) (i : ∀ σ H Q, t' σ H Q → t σ H Q) : PK X e t' := ⟨fun pos pins s σ H Q I q => h.run pos pins s σ H Q I (i _ _ _ q)⟩
section
variable {X : Cx} {E : WK} {e : Expr} {ma : EM} {mr : AM} {kws : List Keyword} {nm : Option Str} {kpos pos p : Pos} {x : Str} {k n : Nat} {f : Addr} {fd : FuncData} {ps ks : List Str} {fm : List D → Sto → Out D}
theorem jk_nil : JK X E [] aNil := ⟨weakK pk_nil fun σ H Q ⟨env, S, g, sr, q⟩ => q [] H g Ext.refl sr.m .nil⟩
theorem jk_cons (ha : JE X E e ma) (hr : JK X E kws mr) : JK X E (⟨nm, e, kpos⟩ :: kws) (aCons ma mr) := ⟨weakK (pk_cons ha.pe hr.pk) fun σ H Q ⟨env, S, g, sr, q⟩ =>
  ⟨env, S, g, sr, q.bind.mono (fun d S1 q1 v H1 g1 x1 m1 r1 => ⟨env, S1, g1, sr.step x1 m1, q1.bind.mono (fun ds S2 q2 vs H2 g2 x2 m2 r2 => q2 (v :: vs) H2 g2 (x1.trans x2) m2 (.cons (r1.mono x2.le) r2)) fun _ _ h => h.step x1⟩) fun _ _ h => h⟩⟩
/-- keywords alone, every parameter by one of them -/
def KB (K : PySem.W.Frag) (fd : FuncData) (ps ks : List Str) (p : List Nat) : Prop := ∀ (s : Shared) (ws : List Value), K.In s.heap → ws.length = ks.length → BindsTo s fd ⟨[], ks.zip ws⟩ (ps.zip (permL p ws))
theorem kb_of {K : PySem.W.Frag} {xn qual : Str} {params : Arguments} {body : List Stmt} {scope : Scope} {kvs : List (Str × V)} {pm : List Nat} (F : FunD K xn qual params body scope [] kvs f fd)
    (h : ∀ (kV doc pv : Value) (an : Option Addr) (cdv ct : Value) (ws : List Value), ws.length = ks.length → bindArgs (PySem.W.fnOf xn qual params body scope .none kV doc pv an cdv ct) ⟨[], ks.zip ws⟩ = pure (ps.zip (permL pm ws))) : KB K fd ps ks pm := by
  obtain ⟨oc, od, dV, kV, doc, pv, an, cdv, ct, osl, rfl, lk, hcd, hD, hK⟩ := F.ex
  rcases hD with ⟨_, rfl⟩ | ⟨e, _⟩
  · exact fun s ws _ hl => .of_eq (h kV doc pv an cdv ct ws hl)
  · exact absurd rfl e
theorem pe_callGK {pm : List Nat} {sp : Sp} {ES : L2.St → XK} {tk : TA} (F : FnG X.prog X.w X.K X.mg X.base k f fd ps sp) (hr : Room k X.A) (hgu : X.A.guards = some []) (hg : Gl X x) (hm : X.mg x = some (.ref f)) (hk : PySem.W.keepIn X.K (.ref f) = true) (hb : KB X.K fd ps ks pm) (hx : ∀ σ, PassesAt (L2.CX X.prog X.w) X σ (ES σ))
    (hkw : PK X kws tk) (hall : (backToKw pos (keywordEach kws X.env)).all (·.1.isSome) = true := by rfl) (hks : (backToKw pos (keywordEach kws X.env)).filterMap (·.1) = ks := by rfl) (hdb : (x == ("__debug__" : Str)) = false := by decide)
    (hpl : ((backTo pos (starEach [] X.env)).any (·.1) || (backToKw pos (keywordEach kws X.env)).any (·.1.isNone)) = false := by rfl) :
    PE X (.Call (.Name x p) [] kws pos) (fun σ H Q => tk σ H fun zs H1 => zs.length = ks.length ∧ sp (permL pm zs) H1 Q (ES σ)) := by
  refine ⟨fun pins s σ H Q I h => wpAny_Call_Name_kw (ld_glob I hg hm ?_ hdb)⟩
  refine PySem.W.callWith_KW0 (h₀ := X.base) I.ok.mod.kin hk hall (thn (hkw.run pos pins s σ H _ I h) fun ws s1 ⟨zs, H1, I1, r, hl, q⟩ => ⟨I1.kIn, ?_⟩) hpl
  rw [hks]
  refine wpAny_call (codeAny_mono (F.run X.A X.stack s1 H1 ⟨[], ks.zip ws⟩ (permL pm ws) (permL pm zs) Q (ES σ) hr hgu I1.env0 (hb s1 ws I1.kIn (by rw [← r.length]; exact hl)) (vals_perm r) q) fun res s' hq => ?_)
  cases res with
  | error z => exact hx σ pins H1 s1 z s' I1 hq
  | ok fl => cases fl <;> first | exact I1.after hq | exact False.elim hq
def eCallK (n j : Nat) (pm : List Nat) (fm : List D → Sto → Out D) (mr : AM) : EM := fun env S => (mr env S).bind fun ds S1 => ifO (decide (ds.length = j) && decide ((permL pm ds).length = n)) (fm (permL pm ds) S1)
theorem je_callGK {pm : List Nat} (F : FnG X.prog X.w X.K X.mg X.base k f fd ps (spM X.K n fm)) (hr : Room k X.A) (hgu : X.A.guards = some []) (hg : Gl X x) (hm : X.mg x = some (.ref f)) (hk : PySem.W.keepIn X.K (.ref f) = true) (hb : KB X.K fd ps ks pm) (hx : ∀ σ, PassesAt (L2.CX X.prog X.w) X σ (E σ))
    (hkw : JK X E kws mr) (hall : (backToKw pos (keywordEach kws X.env)).all (·.1.isSome) = true := by rfl) (hks : (backToKw pos (keywordEach kws X.env)).filterMap (·.1) = ks := by rfl) (hdb : (x == ("__debug__" : Str)) = false := by decide)
    (hpl : ((backTo pos (starEach [] X.env)).any (·.1) || (backToKw pos (keywordEach kws X.env)).any (·.1.isNone)) = false := by rfl) :
    JE X E (.Call (.Name x p) [] kws pos) (eCallK n ks.length pm fm mr) := ⟨weakE (pe_callGK F hr hgu hg hm hk hb hx hkw.pk hall hks hdb hpl) fun σ H Q ⟨env, S, g, sr, q⟩ =>
  ⟨env, S, g, sr, q.bind.mono (fun ds S1 q1 vs H1 g1 x1 m1 r1 => by
    obtain ⟨hc, q2⟩ := q1.ifO
    rw [Bool.and_eq_true, decide_eq_true_eq, decide_eq_true_eq] at hc
    exact ⟨by rw [r1.length]; exact hc.1, permL pm ds, S1, g1, m1, reps_perm r1, hc.2, q2.mono (fun d S2 q3 v H' g' x' m' r' => q3 v H' g' (x1.trans x') m' r') fun _ _ h => h.step x1⟩) fun _ _ h => h⟩⟩
end
end Dg

namespace Dg
open PySem PySem.Spec PyProof.Rows L2
/-! ### words for the printer -/
theorem ru65 {k : Nat} {A : Around} (r : Room k A) : A.units + 65 < cLine := by have := r.un; omega
theorem ru64 {k : Nat} {A : Around} (r : Room k A) : A.units + 64 < cLine := by have := r.un; omega
theorem ru1 {k : Nat} {A : Around} (r : Room k A) : A.units + 1 < cLine := by have := r.un; omega
theorem pass00 {X : Cx} : ∀ σ : L2.St, PassesAt (L2.CX X.prog X.w) X σ (E00 σ) := fun σ => passAt (W := fun _ _ _ _ => False) takes0 σ
section
variable {X : Cx} {E : WK} {a b e c : Expr} {es : List Expr} {ma mb mc : EM} {mr : AM} {ml : LM} {mt : TM} {pos p kp apos : Pos} {x : Str}
theorem nm {i : Nat} (hN : X.N[i]? = some x := by rfl) (hv : Vis X.env.scope x := by first | exact Or.inl rfl | exact Or.inr (Or.inl rfl) | exact Or.inr (Or.inr rfl)) (hd : (x == ("__debug__" : Str)) = false := by decide)
    (hcd : (x == ("__classdict__" : Str)) = false := by decide) : JE X E (.Name x pos) (eVar i) := xe_v (pe_var hN hv hd hcd)
theorem nl {i : Nat} (hN : X.N[i]? = some x := by rfl) (hv : Vis X.env.scope x := by first | exact Or.inl rfl | exact Or.inr (Or.inl rfl) | exact Or.inr (Or.inr rfl)) (hd : (x == ("__debug__" : Str)) = false := by decide)
    (hcd : (x == ("__classdict__" : Str)) = false := by decide) : JL X E (.Name x pos) (lVar i) := xl_v (pe_var hN hv hd hcd)
theorem nd {i : Nat} (hN : X.N[i]? = some x := by rfl) (hv : Vis X.env.scope x := by first | exact Or.inl rfl | exact Or.inr (Or.inl rfl) | exact Or.inr (Or.inr rfl)) (hd : (x == ("__debug__" : Str)) = false := by decide)
    (hcd : (x == ("__classdict__" : Str)) = false := by decide) : JD X E (.Name x pos) (dVar i) := jd_v (pe_var hN hv hd hcd)
theorem cI {i : Int} {k : Nat} : JE X E (.Constant (.int i) k pos) (eRet (.int i)) := xe_c pe_int fun _ => .int _
theorem cS {z : Str} {k : Nat} : JE X E (.Constant (.str z) k pos) (eRet (.str z)) := xe_c pe_str fun _ => .str _
theorem cB {z : Bool} {k : Nat} : JE X E (.Constant (.bool z) k pos) (eRet (.bl z)) := xe_c pe_bl fun _ => .bl _
theorem cN {k : Nat} : JE X E (.Constant .none k pos) (eRet .non) := xe_c pe_non fun _ => .non
theorem tyN {n : String} (hm : X.mg x = none) (hg : Gl X x := by rfl) (hv : bootBuiltins x = some (.type n) := by decide +kernel) (hn : x ≠ "__name__" := by decide) (hd : (x == ("__debug__" : Str)) = false := by decide) : JE X E (.Name x pos) (eRet (.raw (.ty n))) :=
  xe_c (v := .ty n) (pe_bltn (v := .ty n) hg hm hv rfl hn hd) fun _ => .raw _
theorem bAdd (ha : JE X E a ma) (hb : JE X E b mb) : JE X E (.BinOp a .Add b pos) (eOp addD ma mb) := xe_op op_addA dAdd ha hb
theorem bSub (ha : JE X E a ma) (hb : JE X E b mb) : JE X E (.BinOp a .Sub b pos) (eOp subD ma mb) := xe_op op_sub dI ha hb
theorem bMul (ha : JE X E a ma) (hb : JE X E b mb) : JE X E (.BinOp a .Mult b pos) (eOp mulD ma mb) := xe_op op_mulA dMul ha hb
theorem bDiv (ha : JE X E a ma) (hb : JE X E b mb) : JE X E (.BinOp a .FloorDiv b pos) (eOp divD ma mb) := xe_op op_fdiv dDiv ha hb
theorem bMod (ha : JE X E a ma) (hb : JE X E b mb) : JE X E (.BinOp a .Mod b pos) (eOp modD ma mb) := xe_op op_mod dMod ha hb
theorem bPow (ha : JE X E a ma) (hb : JE X E b mb) : JE X E (.BinOp a .Pow b pos) (eOp powD ma mb) := xe_op op_pow dPow ha hb
theorem uNeg (ha : JE X E a ma) : JE X E (.UnaryOp .USub a pos) (eUn negD ma) := xe_un un_neg dNeg ha
theorem eLt (ha : JE X E a ma) (hb : JE X E b mb) (hm : behindInMarks .Lt b = false := by rfl) : JE X E (.Compare a [.Lt] [b] pos) (eOp ltD ma mb) := xe_cmp op_lt dB ha hb hm
theorem eLe (ha : JE X E a ma) (hb : JE X E b mb) (hm : behindInMarks .LtE b = false := by rfl) : JE X E (.Compare a [.LtE] [b] pos) (eOp leD ma mb) := xe_cmp op_le dB ha hb hm
theorem eGt (ha : JE X E a ma) (hb : JE X E b mb) (hm : behindInMarks .Gt b = false := by rfl) : JE X E (.Compare a [.Gt] [b] pos) (eOp gtD ma mb) := xe_cmp op_gt dB ha hb hm
theorem eGe (ha : JE X E a ma) (hb : JE X E b mb) (hm : behindInMarks .GtE b = false := by rfl) : JE X E (.Compare a [.GtE] [b] pos) (eOp geD ma mb) := xe_cmp op_ge dB ha hb hm
theorem tLt' (ha : JE X E a ma) (hb : JE X E b mb) (hm : behindInMarks .Lt b = false := by rfl) : JT X E (.Compare a [.Lt] [b] pos) (tOfE (eOp ltD ma mb)) := jt_cmp op_lt dB ha hb hm
theorem tLe' (ha : JE X E a ma) (hb : JE X E b mb) (hm : behindInMarks .LtE b = false := by rfl) : JT X E (.Compare a [.LtE] [b] pos) (tOfE (eOp leD ma mb)) := jt_cmp op_le dB ha hb hm
theorem tGt' (ha : JE X E a ma) (hb : JE X E b mb) (hm : behindInMarks .Gt b = false := by rfl) : JT X E (.Compare a [.Gt] [b] pos) (tOfE (eOp gtD ma mb)) := jt_cmp op_gt dB ha hb hm
theorem tGe' (ha : JE X E a ma) (hb : JE X E b mb) (hm : behindInMarks .GtE b = false := by rfl) : JT X E (.Compare a [.GtE] [b] pos) (tOfE (eOp geD ma mb)) := jt_cmp op_ge dB ha hb hm
variable {k : Nat}
theorem eEq (hr : Room k X.A) (ha : JE X E a ma) (hb : JE X E b mb) (hm : behindInMarks .Eq b = false := by rfl) : JE X E (.Compare a [.Eq] [b] pos) (eOp eqD ma mb) := xe_cmp (op_eqD (ru64 hr)) dEq ha hb hm
theorem eNe (hr : Room k X.A) (ha : JE X E a ma) (hb : JE X E b mb) (hm : behindInMarks .NotEq b = false := by rfl) : JE X E (.Compare a [.NotEq] [b] pos) (eOp neD ma mb) := xe_cmp (op_neD (ru64 hr)) dNe ha hb hm
theorem tEq (hr : Room k X.A) (ha : JE X E a ma) (hb : JE X E b mb) (hm : behindInMarks .Eq b = false := by rfl) : JT X E (.Compare a [.Eq] [b] pos) (tOfE (eOp eqD ma mb)) := jt_cmp (op_eqD (ru64 hr)) dEq ha hb hm
theorem tNe (hr : Room k X.A) (ha : JE X E a ma) (hb : JE X E b mb) (hm : behindInMarks .NotEq b = false := by rfl) : JT X E (.Compare a [.NotEq] [b] pos) (tOfE (eOp neD ma mb)) := jt_cmp (op_neD (ru64 hr)) dNe ha hb hm
theorem eIn (hr : Room k X.A) (ha : JE X E a ma) (hb : JL X E b ml) (hm : behindInMarks .In b = false := by rfl) : JE X E (.Compare a [.In] [b] pos) (eInL false ma ml) := je_inL (ru65 hr) ha hb hm
theorem eNin (hr : Room k X.A) (ha : JE X E a ma) (hb : JL X E b ml) (hm : behindInMarks .NotIn b = false := by rfl) : JE X E (.Compare a [.NotIn] [b] pos) (eInL true ma ml) := je_notInL (ru65 hr) ha hb hm
theorem tIn (hr : Room k X.A) (ha : JE X E a ma) (hb : JL X E b ml) (hm : behindInMarks .In b = false := by rfl) : JT X E (.Compare a [.In] [b] pos) (tOfE (eInL false ma ml)) := jt_inL (ru65 hr) ha hb hm
theorem tNin (hr : Room k X.A) (ha : JE X E a ma) (hb : JL X E b ml) (hm : behindInMarks .NotIn b = false := by rfl) : JT X E (.Compare a [.NotIn] [b] pos) (tOfE (eInL true ma ml)) := jt_notInL (ru65 hr) ha hb hm
/-! chains of two -/
theorem eLeLe (ha : JE X E a ma) (hb : JE X E b mb) (hc : JE X E c mc) (hm : lastMarks [.LtE, .LtE] [b, c] = false := by with_unfolding_all rfl) : JE X E (.Compare a [.LtE, .LtE] [b, c] pos) (eChain leD leD ma mb mc) := je_chain op_le op_le pB dB ha hb hc hm
theorem tLeLe (ha : JE X E a ma) (hb : JE X E b mb) (hc : JE X E c mc) (hm : lastMarks [.LtE, .LtE] [b, c] = false := by with_unfolding_all rfl) : JT X E (.Compare a [.LtE, .LtE] [b, c] pos) (tOfE (eChain leD leD ma mb mc)) := jt_chain op_le op_le pB dB ha hb hc hm
theorem eLtLt (ha : JE X E a ma) (hb : JE X E b mb) (hc : JE X E c mc) (hm : lastMarks [.Lt, .Lt] [b, c] = false := by with_unfolding_all rfl) : JE X E (.Compare a [.Lt, .Lt] [b, c] pos) (eChain ltD ltD ma mb mc) := je_chain op_lt op_lt pB dB ha hb hc hm
theorem tLtLt (ha : JE X E a ma) (hb : JE X E b mb) (hc : JE X E c mc) (hm : lastMarks [.Lt, .Lt] [b, c] = false := by with_unfolding_all rfl) : JT X E (.Compare a [.Lt, .Lt] [b, c] pos) (tOfE (eChain ltD ltD ma mb mc)) := jt_chain op_lt op_lt pB dB ha hb hc hm
theorem eLeLt (ha : JE X E a ma) (hb : JE X E b mb) (hc : JE X E c mc) (hm : lastMarks [.LtE, .Lt] [b, c] = false := by with_unfolding_all rfl) : JE X E (.Compare a [.LtE, .Lt] [b, c] pos) (eChain leD ltD ma mb mc) := je_chain op_le op_lt pB dB ha hb hc hm
theorem tLeLt (ha : JE X E a ma) (hb : JE X E b mb) (hc : JE X E c mc) (hm : lastMarks [.LtE, .Lt] [b, c] = false := by with_unfolding_all rfl) : JT X E (.Compare a [.LtE, .Lt] [b, c] pos) (tOfE (eChain leD ltD ma mb mc)) := jt_chain op_le op_lt pB dB ha hb hc hm
/-! calls of what is built in -/
theorem fLen (hm : X.mg "len" = none) (ha : JE X E e ma) (hg : Gl X "len" := by rfl) (he : starEach [e] X.env = (false, eval e X.env) :: starEach [] X.env := by rfl) : JE X E (.Call (.Name "len" p) [e] [] pos) (eCB lenD (aCons ma aNil)) :=
  je_callB call_len dLen hg hm (by decide +kernel) (xa_cons ha xa_nil he) (by decide) (by decide) he rfl
theorem fLenL (hm : X.mg "len" = none) (ha : JL X E e ml) (hg : Gl X "len" := by rfl) (he : starEach [e] X.env = (false, eval e X.env) :: starEach [] X.env := by rfl) : JE X E (.Call (.Name "len" p) [e] [] pos) (eCL lenL ml) :=
  je_callBL call_len dLenL hg hm (by decide +kernel) ha (by decide) (by decide) he
theorem fIsi (hm : X.mg "isinstance" = none) (ha : JE X E a ma) (hb : JE X E b mb) (hg : Gl X "isinstance" := by rfl) (he : starEach [a, b] X.env = (false, eval a X.env) :: starEach [b] X.env := by rfl) (he2 : starEach [b] X.env = (false, eval b X.env) :: starEach [] X.env := by rfl) :
    JE X E (.Call (.Name "isinstance" p) [a, b] [] pos) (eCB isiD (aCons ma (aCons mb aNil))) := je_callB call_isi dIsi hg hm (by decide +kernel) (xa_cons ha (xa_cons hb xa_nil he2) he) (by decide) (by decide) he (by rw [he2]; rfl)
theorem fSum (hc : X.calm = true) (hm : X.mg "sum" = none) (ha : JL X E e ml) (hg : Gl X "sum" := by rfl) (he : starEach [e] X.env = (false, eval e X.env) :: starEach [] X.env := by rfl) : JE X E (.Call (.Name "sum" p) [e] [] pos) (eCL sumL ml) :=
  je_callBL (cr_sum hc) dSum hg hm (by decide +kernel) ha (by decide) (by decide) he
theorem fMax (hc : X.calm = true) (hm : X.mg "max" = none) (ha : JL X E e ml) (hg : Gl X "max" := by rfl) (he : starEach [e] X.env = (false, eval e X.env) :: starEach [] X.env := by rfl) : JE X E (.Call (.Name "max" p) [e] [] pos) (eCL maxL ml) :=
  je_callBL (cr_max hc) dMax hg hm (by decide +kernel) ha (by decide) (by decide) he
theorem fMin (hc : X.calm = true) (hm : X.mg "min" = none) (ha : JL X E e ml) (hg : Gl X "min" := by rfl) (he : starEach [e] X.env = (false, eval e X.env) :: starEach [] X.env := by rfl) : JE X E (.Call (.Name "min" p) [e] [] pos) (eCL minL ml) :=
  je_callBL (cr_min hc) dMin hg hm (by decide +kernel) ha (by decide) (by decide) he
theorem fAny (hc : X.calm = true) (hm : X.mg "any" = none) (ha : JL X E e ml) (hg : Gl X "any" := by rfl) (he : starEach [e] X.env = (false, eval e X.env) :: starEach [] X.env := by rfl) : JE X E (.Call (.Name "any" p) [e] [] pos) (eCL anyL ml) :=
  je_callBL (cr_any hc) dAny hg hm (by decide +kernel) ha (by decide) (by decide) he
theorem fAll (hc : X.calm = true) (hm : X.mg "all" = none) (ha : JL X E e ml) (hg : Gl X "all" := by rfl) (he : starEach [e] X.env = (false, eval e X.env) :: starEach [] X.env := by rfl) : JE X E (.Call (.Name "all" p) [e] [] pos) (eCL allL ml) :=
  je_callBL (cr_all hc) dAll hg hm (by decide +kernel) ha (by decide) (by decide) he
theorem fList (hm : X.mg "list" = none) (ha : JL X E e ml) (hg : Gl X "list" := by rfl) (he : starEach [e] X.env = (false, eval e X.env) :: starEach [] X.env := by rfl) : JE X E (.Call (.Name "list" p) [e] [] pos) (eCL listOfL ml) :=
  je_callTyL call_list_of dListOf hg hm (by decide +kernel) ha (by decide) (by decide) he
def tupleOfD : List D → Option D
  | [.tup ds] => some (.tup ds)
  | [.lst ds] => some (.tup ds)
  | [.scr ds] => some (.tup ds)
  | _ => none
theorem dTupleOf : DCall X.K (fun xs H Q => ∃ p ys, xs = [.ref p] ∧ ((SqL X.K H p ys ∧ ∀ l, H l = none → Q (.ref l) (upd H l (.tup ys))) ∨ (SqT X.K H p ys ∧ Q (.ref p) H))) tupleOfD := fun g H S Q ds vs d m r h q => by
  unfold tupleOfD at h
  split at h
  · cases h
    cases r with
    | cons r rs =>
      cases rs
      cases r with
      | tup hs r => exact ⟨_, _, rfl, .inr ⟨sqT_mono m.same hs, q _ H g Ext.refl m (.tup hs r)⟩⟩
  · cases h
    cases r with
    | cons r rs =>
      cases rs
      cases r with
      | lst hs r =>
        refine ⟨_, _, rfl, .inl ⟨SqL.of (m.same _ _ hs), fun p hp => ?_⟩⟩
        obtain ⟨x2, m2⟩ := laidB (o := .tup _) m hp
        exact q _ _ _ x2 m2 (.tup (.of upd_same) (r.mono x2.le))
  · cases h
    cases r with
    | cons r rs =>
      cases rs
      cases r with
      | scr hs r =>
        refine ⟨_, _, rfl, .inl ⟨m.same.seq hs, fun p hp => ?_⟩⟩
        obtain ⟨x2, m2⟩ := laidB (o := .tup _) m hp
        exact q _ _ _ x2 m2 (.tup (.of upd_same) (r.mono x2.le))
  · cases h
theorem fTuple (hm : X.mg "tuple" = none) (ha : JE X E e ma) (hg : Gl X "tuple" := by rfl) (he : starEach [e] X.env = (false, eval e X.env) :: starEach [] X.env := by rfl) : JE X E (.Call (.Name "tuple" p) [e] [] pos) (eCB tupleOfD (aCons ma aNil)) :=
  je_callTy call_tuple_of dTupleOf hg hm (by decide +kernel) (xa_cons ha xa_nil he) (by decide) (by decide) he rfl
def tupleOfLL : Bool × List D → Option D := fun q => if q.1 = true then some (.tup q.2) else none
theorem dTupleOfL : DSeq X.K (fun xs H Q => ∃ p ys, xs = [.ref p] ∧ ((SqL X.K H p ys ∧ ∀ l, H l = none → Q (.ref l) (upd H l (.tup ys))) ∨ (SqT X.K H p ys ∧ Q (.ref p) H))) tupleOfLL := fun g H S Q ⟨l, ds⟩ a vs d m hs r h q => by
  unfold tupleOfLL at h
  split at h
  · rename_i hl
    cases h
    simp only at hl
    subst hl
    refine ⟨_, _, rfl, .inl ⟨hs, fun p hp => ?_⟩⟩
    obtain ⟨x2, m2⟩ := laidB (o := .tup _) m hp
    exact q _ _ _ x2 m2 (.tup (.of upd_same) (r.mono x2.le))
  · cases h
theorem fTupleL (hm : X.mg "tuple" = none) (ha : JL X E e ml) (hg : Gl X "tuple" := by rfl) (he : starEach [e] X.env = (false, eval e X.env) :: starEach [] X.env := by rfl) : JE X E (.Call (.Name "tuple" p) [e] [] pos) (eCL tupleOfLL ml) :=
  je_callTyL call_tuple_of dTupleOfL hg hm (by decide +kernel) ha (by decide) (by decide) he
theorem fAbs (hm : X.mg "abs" = none) (ha : JE X E e ma) (hg : Gl X "abs" := by rfl) (he : starEach [e] X.env = (false, eval e X.env) :: starEach [] X.env := by rfl) : JE X E (.Call (.Name "abs" p) [e] [] pos) (eCB absD (aCons ma aNil)) :=
  je_callB call_abs dAbs hg hm (by decide +kernel) (xa_cons ha xa_nil he) (by decide) (by decide) he rfl
theorem fInt (hm : X.mg "int" = none) (ha : JE X E e ma) (hg : Gl X "int" := by rfl) (he : starEach [e] X.env = (false, eval e X.env) :: starEach [] X.env := by rfl) : JE X E (.Call (.Name "int" p) [e] [] pos) (eCB int1D (aCons ma aNil)) :=
  je_callTy call_int1 dInt1 hg hm (by decide +kernel) (xa_cons ha xa_nil he) (by decide) (by decide) he rfl
theorem fRepr (hr : Room k X.A) (hgu : X.A.guards = some []) (hm : X.mg "repr" = none) (ha : JE X E e ma) (hg : Gl X "repr" := by rfl) (he : starEach [e] X.env = (false, eval e X.env) :: starEach [] X.env := by rfl) : JE X E (.Call (.Name "repr" p) [e] [] pos) (eCB reprD (aCons ma aNil)) :=
  je_callB (call_repr hr hgu) dRepr hg hm (by decide +kernel) (xa_cons ha xa_nil he) (by decide) (by decide) he rfl
theorem fDivmod (hm : X.mg "divmod" = none) (ha : JE X E a ma) (hb : JE X E b mb) (hg : Gl X "divmod" := by rfl) (he : starEach [a, b] X.env = (false, eval a X.env) :: starEach [b] X.env := by rfl) (he2 : starEach [b] X.env = (false, eval b X.env) :: starEach [] X.env := by rfl) :
    JE X E (.Call (.Name "divmod" p) [a, b] [] pos) (eCB divmodD (aCons ma (aCons mb aNil))) := je_callB call_divmod dDivmod hg hm (by decide +kernel) (xa_cons ha (xa_cons hb xa_nil he2) he) (by decide) (by decide) he (by rw [he2]; rfl)
theorem fMax2 (hc : X.calm = true) (hm : X.mg "max" = none) (ha : JE X E a ma) (hb : JE X E b mb) (hg : Gl X "max" := by rfl) (he : starEach [a, b] X.env = (false, eval a X.env) :: starEach [b] X.env := by rfl) (he2 : starEach [b] X.env = (false, eval b X.env) :: starEach [] X.env := by rfl) :
    JE X E (.Call (.Name "max" p) [a, b] [] pos) (eCB max2D (aCons ma (aCons mb aNil))) := je_callB (call_max2 hc) dMax2 hg hm (by decide +kernel) (xa_cons ha (xa_cons hb xa_nil he2) he) (by decide) (by decide) he (by rw [he2]; rfl)
theorem fMin2 (hc : X.calm = true) (hm : X.mg "min" = none) (ha : JE X E a ma) (hb : JE X E b mb) (hg : Gl X "min" := by rfl) (he : starEach [a, b] X.env = (false, eval a X.env) :: starEach [b] X.env := by rfl) (he2 : starEach [b] X.env = (false, eval b X.env) :: starEach [] X.env := by rfl) :
    JE X E (.Call (.Name "min" p) [a, b] [] pos) (eCB min2D (aCons ma (aCons mb aNil))) := je_callB (call_min2 hc) dMin2 hg hm (by decide +kernel) (xa_cons ha (xa_cons hb xa_nil he2) he) (by decide) (by decide) he (by rw [he2]; rfl)
/-! sorted(.., reverse=..) -/
theorem fSortedD {md : DM} {bb : Bool} {kk : Nat} {kp2 : Pos} (hc : X.calm = true) (hm : X.mg "sorted" = none) (hd : JD X E e md) (hg : Gl X "sorted" := by rfl)
    (he : backTo pos (starEach [e] X.env) = (false, eval e X.env) :: backTo pos (starEach [] X.env) := by rfl) (he1 : starEach [e] X.env = (false, eval e X.env) :: starEach [] X.env := by rfl) :
    JF X E (.Call (.Name "sorted" p) [e] [⟨some "reverse", .Constant (.bool bb) kk kp2, kp⟩] pos) (fSortD md bb) :=
  jf_sortD hc hd hg hm (by decide +kernel) fun {te} ht => pe_callBK (cr_sortD hc) hg hm (by decide +kernel) (pa_cons ht pa_nil he1) (pk_cons pe_bl pk_nil) (by decide) (by decide) he (by rw [he]; rfl) (by rfl) (by rfl) (by rfl)
theorem fSortedL {bb : Bool} {kk : Nat} {kp2 : Pos} (hm : X.mg "sorted" = none) (hd : JL X E e ml) (hg : Gl X "sorted" := by rfl)
    (he : backTo pos (starEach [e] X.env) = (false, eval e X.env) :: backTo pos (starEach [] X.env) := by rfl) (he1 : starEach [e] X.env = (false, eval e X.env) :: starEach [] X.env := by rfl) :
    JF X E (.Call (.Name "sorted" p) [e] [⟨some "reverse", .Constant (.bool bb) kk kp2, kp⟩] pos) (fSortL ml bb) :=
  jf_sortR hd fun {te} ht => pe_callBK cr_sortedRev hg hm (by decide +kernel) (pa_cons ht pa_nil he1) (pk_cons pe_bl pk_nil) (by decide) (by decide) he (by rw [he]; rfl) (by rfl) (by rfl) (by rfl)
/-! subscripts -/
theorem sIx (ha : JE X E a ma) (hb : JE X E b mb) (hs : PlainIx b := by exact fun _ _ => rfl) : JE X E (.Subscript a b pos) (eOpS ixS ma mb) := je_ix ha hb hs
end
end Dg

namespace Dg
open PySem PySem.Spec PyProof.Rows L2
section
variable {X : Cx} {E : WK} {a b e c : Expr} {es : List Expr} {ma mb mc : EM} {mr : AM} {ml : LM} {mt : TM} {pos p kp apos spos : Pos} {x : Str}
theorem ef_of : ∀ σ H Q, tE X.K E (eF mr) σ H Q → tF X.K E mr σ H Q := fun σ H Q ⟨env, S, g, sr, q⟩ =>
  ⟨env, S, g, sr, q.bind.mono (fun xs S1 q1 a vs H1 g1 x1 m1 hl h0 hb ha r1 => by
    obtain ⟨x2, m2, l2⟩ := pubF x1 m1 hl h0 hb ha
    exact q1 _ _ _ x2 m2 (.lst upd_same (r1.mono l2))) fun _ _ h => h⟩
theorem vf_of : ∀ σ H Q, tV X.K E (vF mr) σ H Q → tF X.K E mr σ H Q := fun σ H Q ⟨env, S, g, sr, q⟩ =>
  ⟨env, S, g, sr, q.bind.mono (fun ds S1 q1 a vs H1 g1 x1 m1 h1 h0 hB hA r1 => q1 _ H1 g1 x1 m1 ⟨a, rfl, h0, hB, hA, vs, h1, r1⟩) fun _ _ h => h⟩
theorem ve_of : ∀ σ H Q, tV X.K E (vE ma) σ H Q → tE X.K E ma σ H Q := fun σ H Q ⟨env, S, g, sr, q⟩ =>
  ⟨env, S, g, sr, q.bind.mono (fun d S1 q1 v H1 g1 x1 m1 r1 => q1 v H1 g1 x1 m1 r1) fun _ _ h => h⟩
variable {elt tg iter : Expr} {ifs : List Expr} {scope : Scope} {own : List (Str × Nat)} {mi : AM} {pm : PM} {me : EM} {sl : List Nat} {i : Nat} {y : Str} {py : Pos}
theorem setLc0 {gt : TG} {mv : LSM} (hc : X.calm = true) (hN : X.N.Nodup) (hi : JC X E tg iter mi) (ok : BlkOk X.N X.env.scope scope own) (hp : POk X.K gt sl pm)
    (hg : ∀ (s : Shared) (H : Hp) (C : Addr) (cl : List (Str × Addr)) (fp : List Addr), PG (X.blk s H scope (compEnvC scope cl C X.env) fp) tg gt)
    (ht : ∀ (s : Shared) (H : Hp) (C : Addr) (cl : List (Str × Addr)) (fp : List Addr), JTs (X.blk s H scope (compEnvC scope cl C X.env) fp) ifs mt)
    (he : ∀ (s : Shared) (H : Hp) (C : Addr) (cl : List (Str × Addr)) (fp : List Addr), JE (X.blk s H scope (compEnvC scope cl C X.env) fp) E00 elt me)
    (hsl : ∀ i ∈ sl, i ∈ own.map (·.2)) (hy : X.N[i]? = some y) (hyl : X.env.scope.names.lookup y = some .local) (hsw : swapsWith (.ListComp elt [⟨tg, iter, ifs, 0⟩] scope pos) (some (.Name y py)) spos.line X.env = pure true)
    (hs : ∀ x, foldedSetIterable iter X.env x = pure x) (hv : ∀ σ H Q, tV X.K E mv σ H Q → tF X.K E (fLc mi pm mt me (own.map (·.2))) σ H Q) :
    JS X E (.Assign [.Name y py] (.ListComp elt [⟨tg, iter, ifs, 0⟩] scope pos) spos) (sSet i mv) :=
  ⟨weakS (ps_setLc (tt := tT X.K E00 mt) (te := tE X.K E00 me) hc hN hy hyl hsw hi.pi ok hg (fun s H C cl fp => (ht s H C cl fp).pt) (fun s H C cl fp => (he s H C cl fp).pe) hs)
    (tasg_of fun σ H Q h => tlc_of (fun _ _ _ h => h) hp hsl (fun _ _ _ h => h) (fun _ _ _ h => h) σ H Q (hv σ H Q h))⟩

theorem lcE {gt : TG} (hc : X.calm = true) (hN : X.N.Nodup) (hi : JC X E tg iter mi) (ok : BlkOk X.N X.env.scope scope own) (hp : POk X.K gt sl pm)
    (hg : ∀ (s : Shared) (H : Hp) (C : Addr) (cl : List (Str × Addr)) (fp : List Addr), PG (X.blk s H scope (compEnvC scope cl C X.env) fp) tg gt)
    (ht : ∀ (s : Shared) (H : Hp) (C : Addr) (cl : List (Str × Addr)) (fp : List Addr), JTs (X.blk s H scope (compEnvC scope cl C X.env) fp) ifs mt)
    (he : ∀ (s : Shared) (H : Hp) (C : Addr) (cl : List (Str × Addr)) (fp : List Addr), JE (X.blk s H scope (compEnvC scope cl C X.env) fp) E00 elt me)
    (hsl : ∀ i ∈ sl, i ∈ own.map (·.2)) (hy : X.N[i]? = some y) (hyl : X.env.scope.names.lookup y = some .local) (hsw : swapsWith (.ListComp elt [⟨tg, iter, ifs, 0⟩] scope pos) (some (.Name y py)) spos.line X.env = pure true)
    (hs : ∀ x, foldedSetIterable iter X.env x = pure x := by intro _; rfl) :
    JS X E (.Assign [.Name y py] (.ListComp elt [⟨tg, iter, ifs, 0⟩] scope pos) spos) (sSet i (vE (eF (fLc mi pm mt me (own.map (·.2)))))) :=
  setLc0 hc hN hi ok hp hg ht he hsl hy hyl hsw hs fun σ H Q h => ef_of σ H Q (ve_of σ H Q h)
theorem lcV {gt : TG} (hc : X.calm = true) (hN : X.N.Nodup) (hi : JC X E tg iter mi) (ok : BlkOk X.N X.env.scope scope own) (hp : POk X.K gt sl pm)
    (hg : ∀ (s : Shared) (H : Hp) (C : Addr) (cl : List (Str × Addr)) (fp : List Addr), PG (X.blk s H scope (compEnvC scope cl C X.env) fp) tg gt)
    (ht : ∀ (s : Shared) (H : Hp) (C : Addr) (cl : List (Str × Addr)) (fp : List Addr), JTs (X.blk s H scope (compEnvC scope cl C X.env) fp) ifs mt)
    (he : ∀ (s : Shared) (H : Hp) (C : Addr) (cl : List (Str × Addr)) (fp : List Addr), JE (X.blk s H scope (compEnvC scope cl C X.env) fp) E00 elt me)
    (hsl : ∀ i ∈ sl, i ∈ own.map (·.2)) (hy : X.N[i]? = some y) (hyl : X.env.scope.names.lookup y = some .local) (hsw : swapsWith (.ListComp elt [⟨tg, iter, ifs, 0⟩] scope pos) (some (.Name y py)) spos.line X.env = pure true)
    (hs : ∀ x, foldedSetIterable iter X.env x = pure x := by intro _; rfl) :
    JS X E (.Assign [.Name y py] (.ListComp elt [⟨tg, iter, ifs, 0⟩] scope pos) spos) (sSet i (vF (fLc mi pm mt me (own.map (·.2))))) :=
  setLc0 hc hN hi ok hp hg ht he hsl hy hyl hsw hs fun σ H Q h => vf_of σ H Q h
/-! targets -/
theorem gN {i : Nat} (hN : X.N.Nodup) (hi : X.N[i]? = some x := by rfl) (hx : Loc X.env.scope x := by first | exact Or.inl rfl | exact Or.inr rfl) (hf : X.fn x = true ∨ X.env.scope.names.lookup x = some .local := by first | exact .inl rfl | exact .inr rfl) : PG X (.Name x pos) (gName i) :=
  pg_name hN hi hx hf
/-! a, b, c = values -/
def sPar3 (i j l : Nat) (mr : AM) : SM := sBind mr fun ds env S => match ds with
  | [x, y, z] => ofS (((setS i (.val x) env).bind (setS j (.val y))).bind (setS l (.val z))) S
  | _ => .bad
theorem SR.putV {K : PySem.W.Frag} {σ : Sg} {H : Hp} {env env' : Ev} {S : Sto} {g : G} {i : Nat} {v : V} {d : D} (sr : SR K σ H env S g) (r : Rep K g v d) (h : setS i (.val d) env = some env') :
    SR K (σ.set i (some v)) H env' S g ∧ ∀ a, Lv (σ.set i (some v)) env' a → Lv σ env a := by
  unfold setS at h
  split at h
  · rename_i hi
    cases h
    obtain ⟨a, b⟩ := sr.putS (s := .val d) (H0 := H) r (fun a ha hl => by
      obtain ⟨k, o, f1, f2⟩ := hl
      obtain ⟨a', e1, _, _, m⟩ := sr.lv k o f1
      rw [f2] at e1
      cases e1
      obtain ⟨u, hu⟩ := m.some
      rw [hu] at ha
      cases ha) (by unfold setS; rw [if_pos hi])
    refine ⟨a, fun z hz => ?_⟩
    obtain ⟨k, o, f1, f2⟩ := hz
    by_cases q : k = i
    · subst q
      rw [List.getElem?_set_self hi] at f1
      cases f1
    · rw [List.getElem?_set_ne (Ne.symm q)] at f1 f2
      exact ⟨k, o, f1, f2⟩
  · cases h
theorem js_par3 {i j l : Nat} {x y z : Str} {px py pz pt : Pos} {kt k2 pt2} {mr : AM} (hc : X.calm = true) (hN : X.N.Nodup) (hi : X.N[i]? = some x) (hj : X.N[j]? = some y) (hl : X.N[l]? = some z) (hij : i ≠ j) (hil : i ≠ l) (hjl : j ≠ l)
    (hx : X.env.scope.names.lookup x = some .local) (hy : X.env.scope.names.lookup y = some .local) (hz : X.env.scope.names.lookup z = some .local) (ha : JA X E [a, b, c] mr)
    (hw : swappedStores [.Tuple [.Name x px, .Name y py, .Name z pz] kt pt] (.Tuple [a, b, c] k2 pt2) X.env = pure (some [x, y, z]))
    (hs : swapsWithSole [.Tuple [.Name x px, .Name y py, .Name z pz] kt pt] (.Tuple [a, b, c] k2 pt2) pos.line X.env = pure false := by rfl) :
    JS X E (.Assign [.Tuple [.Name x px, .Name y py, .Name z pz] kt pt] (.Tuple [a, b, c] k2 pt2) pos) (sPar3 i j l mr) :=
  ⟨weakS (ps_par3 hc hN hi hj hl hij hil hjl hx hy hz ha.pa hw hs) fun Dn σ H ⟨env, S, g, sr, q⟩ => ⟨env, S, g, sr, q.bindX.mono (fun ds S1 q1 vs H1 g1 x1 m1 r1 => by
    split at q1
    · obtain ⟨env', he, q2⟩ := q1.ofS
      obtain ⟨e2, h12, h3⟩ := Option.bind_eq_some_iff.mp he
      obtain ⟨e1, h1, h2⟩ := Option.bind_eq_some_iff.mp h12
      cases r1 with
      | cons ra r1 =>
        cases r1 with
        | cons rb r1 =>
          cases r1 with
          | cons rc r1 =>
            cases r1
            have sr1 := sr.step x1 m1
            obtain ⟨s2, l2⟩ := sr1.putV ra h1
            obtain ⟨s3, l3⟩ := s2.putV rb h2
            obtain ⟨s4, l4⟩ := s3.putV rc h3
            exact ⟨_, _, _, rfl, q2 _ H1 g1 (x1.put fun a z => .inl (l2 a (l3 a (l4 a z)))) s4⟩
    · exact q1.elim) fun _ _ h => h.ex sr⟩⟩
/-! x.append(e) -/
theorem mApp {i : Nat} {o : Expr} {apos p : Pos} (ho : PE X o (tVar i)) (he : JE X E e ma)
    (hbase : attributeBase o "append" X.env (eval o X.env) = eval o X.env := by rfl)
    (hfew : ((backTo p (starEach [e] X.env)).all (fun x => !x.1) && (backToKw p (keywordEach [] X.env)).all (fun x => x.1.isSome)
      && decide ([e].length + ([] : List Keyword).length + (if ([] : List Keyword).isEmpty then 0 else 1) < 30)) = true := by rfl)
    (hline : (apos.endLine == p.line) = true := by rfl) (hst : starEach [e] X.env = (false, eval e X.env) :: starEach [] X.env := by rfl) (hplain : (backTo p (starEach [] X.env)).any (·.1) = false := by rfl)
    (hs : swapsWith (.Call (.Attribute o "append" apos) [e] [] p) none pos.line X.env = pure false := by rfl) :
    JS X E (.Expr (.Call (.Attribute o "append" apos) [e] [] p) pos) (sApp i ma) :=
  js_app ho he fun h1 h2 => ps_expr (pe_bm PySem.F.plainAttrs_list PySem.F.slot_list_append PySem.F.type_list_append mt_append h1 (pa_cons h2 pa_nil hst) hbase hfew hline hst hplain) hs
/-! a, b = e1, e2 -/
theorem par2 {i j : Nat} {x y : Str} {px py pt : Pos} {kt k2 pt2} {mv : LSsM} (hc : X.calm = true) (hN : X.N.Nodup) (hi : X.N[i]? = some x) (hj : X.N[j]? = some y) (hij : i ≠ j)
    (hx : X.env.scope.names.lookup x = some .local) (hy : X.env.scope.names.lookup y = some .local) (ha : JVs X E [a, b] mv)
    (hw : swappedStores [.Tuple [.Name x px, .Name y py] kt pt] (.Tuple [a, b] k2 pt2) X.env = pure (some [x, y]))
    (hs : swapsWithSole [.Tuple [.Name x px, .Name y py] kt pt] (.Tuple [a, b] k2 pt2) pos.line X.env = pure false := by rfl) :
    JS X E (.Assign [.Tuple [.Name x px, .Name y py] kt pt] (.Tuple [a, b] k2 pt2) pos) (sBind mv fun ss env S => ofS (set2 i j ss env) S) :=
  js_par hc hN hi hj hij hx hy ha hw hs (ps_par hc hN hi hj hij hx hy ha.pa hw hs)
/-! what a def's own body lets out -/
section
variable {P : Program} {w : World} {K : PySem.W.Frag} {mg : Str → Option Value} {base : Heap} {N : List Str} {qual : Str} {st : Stmt} {f : Addr} {cdv : Value} {A : Around} {outer : List Env} {s : Shared} {H : Hp} {XE : XK}
theorem passB : ∀ σ : L2.St, PassesAt (L2.CX P w) (BodyCx P w K mg base N qual st f cdv A outer s H XE) σ XE := fun σ => passAt (W := fun cls d _ H' => XE cls d H') (takes_of rfl rfl rfl rfl) σ
theorem ownB : PassesOwn (model P w) (BodyCx P w K mg base N qual st f cdv A outer s H XE).A (BodyCx P w K mg base N qual st f cdv A outer s H XE).env (BodyCx P w K mg base N qual st f cdv A outer s H XE).xe := passes_of (X := BodyCx P w K mg base N qual st f cdv A outer s H XE) rfl
end
end
end Dg

namespace Dg
open PySem PySem.Spec PyProof.Rows L2
/-! ### (a, b, ..) = a list -/
section
variable {prog : Program} {w : World} {A : Around} {E : Value → Shared → Prop} {s : Shared}
theorem draws {it l : Addr} {items : Array Value} (hne : l ≠ it) : ∀ (n i : Nat) (s : Shared) (Q : List Value → Shared → Prop), s.heap.IsListIter it l i → s.heap.IsList l items → i + n ≤ items.size →
    (∀ h' : Heap, h'.IsListIter it l (i + n) → Heap.SameBut it s.heap h' → Q ((items.toList.drop i).take n) { s with heap := h' }) → wpAny (model prog w) A (draw (.ref it) n) Q E s
  | 0, i, s, Q, hit, _, _, k => by
    show wpAny _ _ (pure []) Q E s
    exact wpAny_pure (by simpa using k s.heap hit (Heap.SameBut.refl ..))
  | n + 1, i, s, Q, hit, hl, hle, k => by
    have lt : i < items.size := by omega
    show wpAny _ _ (pyNext (.ref it) >>= _) Q E s
    refine wpAny_bind (wpAny_pyNext_list_item hit hl (x := items[i]) (by simp [lt]) fun h1 i1 e1 => ?_)
    refine wpAny_bind (wpAny_holding (draws hne n (i + 1) _ _ i1 (hl.extBut e1.extBut hne) (by omega) fun h2 i2 e2 => wpAny_pure ?_))
    have split : items.toList.drop i = items[i] :: items.toList.drop (i + 1) := by simp [List.drop_eq_getElem_cons, lt]
    have fin := k h2 (by rw [show i + (n + 1) = i + 1 + n by omega]; exact i2) (e1.trans e2)
    rwa [split, List.take_succ_cons] at fin
theorem unpackList {l : Addr} {items : Array Value} {Q : List Value → Shared → Prop} (hh : A.handled = none) (hl : s.heap.IsList l items) (k : ∀ h', Heap.ExtBut s.heap.objs.size s.heap h' → Q items.toList { s with heap := h' }) :
    wpAny (model prog w) A (unpackItems (.ref l) items.size none) Q E s := by
  have ne : l ≠ s.heap.objs.size := by
    obtain ⟨o, ho, _⟩ := hl
    exact Nat.ne_of_lt (Heap.lt_size ho)
  unfold unpackItems notIterableAtAll
  refine wpAny_bind (wpAny_bind (wpAny_specialOf hl.typeIs slot_list_iter.lookup (wpAny_pure ?_)))
  simp only [Bool.false_eq_true, if_false]
  refine wpAny_bind (wpAny_holding (wpAny_pyIter_list hl ?_))
  refine wpAny_bind (wpAny_holding (draws ne items.size 0 _ _ ⟨_, Heap.get?_push_size _ rfl, rfl, rfl⟩ (hl.push _) (by omega) fun h1 i1 e1 => ?_))
  rw [show List.take items.size (List.drop 0 items.toList) = items.toList by rw [List.drop_zero]; exact List.take_of_length_le (by simp), if_neg (by simp)]
  refine wpAny_bind (wpAny_holding (wpAny_pyNext_list_end hh i1 ((hl.push _).extBut e1.extBut ne) (by simp) fun h2 e2 => ?_))
  simp only [Option.isSome_none, Bool.false_eq_true, if_false]
  exact wpAny_pure (k h2 fun b o hb e => e2 b o hb (e1.extBut b o hb (Heap.get?_push_of_some _ e)))
end
def gTupL (K : PySem.W.Frag) (n : Nat) (t : TGs) : TG := fun v σ H Q => ∃ a xs, v = .ref a ∧ SqL K H a xs ∧ xs.length = n ∧ t xs σ H Q
def gTupA (K : PySem.W.Frag) (n : Nat) (t : TGs) : TG := fun v σ H Q => gTup K n t v σ H Q ∨ gTupL K n t v σ H Q
theorem pg_tupA {X : Cx} {pos : Pos} {es : List Expr} {k : Nat} {t : TGs} {n : Nat} (hc : X.calm = true) (h : PGs X es t)
    (hn : (assignEach es X.env).length = n := by rfl) (hst : (assignEach es X.env).findIdx? (·.1) = none := by rfl) : PG X (.Tuple es k pos) (gTupA X.K n t) := by
  refine ⟨fun pins s σ H v u Q I r hw => hw.elim ((pg_tup hc h hn hst).run pins s σ H v u Q I r) fun ⟨a, xs, e1, hq, hl, hw2⟩ => ?_⟩
  subst e1
  cases r
  obtain ⟨its, rv, ⟨o, n', ho, hcl, hd, _⟩, hz⟩ := I.list hq
  rw [assign_Tuple]
  refine wpAny_bind (wpAny_standAt ?_)
  unfold unpack
  rw [show (assignEach es X.env).length = its.toArray.size by simp [hn, ← hl, rv.length], hst]
  refine wpAny_bind (wpAny_holding (unpackList (I.ok.hd hc) ⟨o, ho, by assumption, n', by assumption⟩ fun h' hx => ?_))
  have I1 : Inv X pins σ H { s with heap := h' } := I.kept (t' := s.toks) fun b o e => hx b o (Nat.ne_of_lt (Heap.lt_size e)) e
  exact h.run pins _ σ H xs _ Q I1 (by simpa using rv) hw2
def seqT : D → Option (List D)
  | .tup ds => some ds
  | .lst ds => some ds
  | _ => none
def pTpA (r : PMs) (n : Nat) : PM := fun d env => match seqT d with
  | some ds => if ds.length = n then r ds env else none
  | none => none
theorem pok_tpA {K : PySem.W.Frag} {n : Nat} {r : PMs} {sl : List Nat} {t : TGs} (k1 : POks K t sl r) : POk K (gTupA K n t) sl (pTpA r n) := fun σ H env S g v d env' Q s rr h q => by
  cases rr <;> simp only [pTpA, seqT] at h <;> try (cases h; done)
  · rename_i a vs ds h1 r1
    split at h
    · rename_i hl
      exact .inl ⟨a, vs, rfl, sqT_mono s.m.same h1, by rw [r1.length]; exact hl, k1 σ H env S g vs ds env' Q s r1 h q⟩
    · cases h
  · rename_i a vs ds h1 r1
    split at h
    · rename_i hl
      exact .inr ⟨a, vs, rfl, SqL.of (s.m.same _ _ h1), by rw [r1.length]; exact hl, k1 σ H env S g vs ds env' Q s r1 h q⟩
    · cases h
end Dg

namespace Dg
open PySem PySem.Spec PyProof.Rows L2
structure FT (K : PySem.W.Frag) (mg : Str → Option Value) (x : Str) (st : Stmt) where
  a : Addr
  d : FuncData
  F : FnP K x x st a d
  g : mg x = some (.ref a)
structure CT (K : PySem.W.Frag) (mg : Str → Option Value) (x : Str) (d : D) where
  u : Value
  g : mg x = some u
  r : GRep K u d
section
variable {K : PySem.W.Frag} {mg : Str → Option Value} {h : Heap} {fa : List He.Fa} {fn : List He.DefD}
theorem ftOf {x : Str} {st : Stmt} (X : K.In h) (G : h.Ns mainGlobals mg) (c : He.SaysD fa fn K) (i j : Nat) (h1 : fn[i]? = some ⟨(x, none), x, x, defArgs st, defBody st, defScope st, [], []⟩) (h2 : fa[j]? = some (.glo x)) : Nonempty (FT K mg x st) := by
  obtain ⟨fd, F⟩ := c.def_ i h1
  exact ⟨⟨_, fd, F, He.glo_ok X G (c.fact j h2)⟩⟩
theorem frOf {x : Str} (X : K.In h) (G : h.Ns mainGlobals mg) (c : He.SaysD fa fn K) (j : Nat) (h2 : fa[j]? = some (.free x)) : mg x = none := He.free_ok X G (c.fact j h2)
theorem ciOf {x : Str} {i : Int} (X : K.In h) (G : h.Ns mainGlobals mg) (c : He.SaysD fa fn K) (j : Nat) (h2 : fa[j]? = some (.int x i)) : Nonempty (CT K mg x (.int i)) := by
  obtain ⟨t, e⟩ := He.int_ok X G (c.fact j h2)
  exact ⟨⟨_, e, .int⟩⟩
theorem csOf {x z : Str} (X : K.In h) (G : h.Ns mainGlobals mg) (c : He.SaysD fa fn K) (j : Nat) (h2 : fa[j]? = some (.str x z)) : Nonempty (CT K mg x (.str z)) := by
  obtain ⟨t, e⟩ := He.str_ok X G (c.fact j h2)
  exact ⟨⟨_, e, ⟨⟨.str z, ⟨t, rfl⟩, fun _ => .str z⟩⟩⟩⟩
def dvD : He.Dv → D
  | .non => .non
  | .bl b => .bl b
  | .int i => .int i
  | .str x => .str x
  | .ty n => .raw (.ty n)
  | _ => .non
def dvOk : He.Dv → Bool
  | .non => true
  | .bl _ => true
  | .int _ => true
  | .str _ => true
  | .ty _ => true
  | _ => false
theorem rep_dv {g : G} : ∀ {v : He.Dv}, dvOk v = true → Rep K g (v.v K) (dvD v)
  | .non, _ => .non
  | .bl b, _ => .bl b
  | .int i, _ => .int i
  | .str x, _ => .str x
  | .ty n, _ => .raw _
theorem reps_dv {g : G} : ∀ {vs : List He.Dv}, vs.all dvOk = true → Reps K g (vs.map (He.Dv.v K)) (vs.map dvD)
  | [], _ => .nil
  | v :: vs, e => by
    rw [List.all_cons, Bool.and_eq_true] at e
    exact .cons (rep_dv e.1) (reps_dv e.2)
theorem ctOf {x : Str} {vs : List He.Dv} {ds : List D} (X : K.In h) (G : h.Ns mainGlobals mg) (c : He.SaysD fa fn K) (j : Nat) (hb : He.tupB K x vs = true) (ho : vs.all dvOk = true) (hd : vs.map dvD = ds) (h2 : fa[j]? = some (.glo x)) : Nonempty (CT K mg x (.tup ds)) :=
  ⟨⟨_, He.glo_ok X G (c.fact j h2), ⟨⟨.ref (He.ga K x), rfl, fun g => .tup (He.tupB_ok hb g.B) (hd ▸ reps_dv ho)⟩⟩⟩⟩
end
/-- the law's own def, of a script -/
theorem lawSp {K : PySem.W.Frag} {fm : List D → Sto → Out D} {ns : List Int} {H : Hp} {a : Addr} (h : ∃ S, fm [.scr (ns.map D.int)] [] = .ok (.bl true) S) (hS : SqL K H a (ns.map V.int)) :
    spM K 1 fm [.ref a] H (fun v _ => v = .bl true) fun _ _ _ => False := by
  obtain ⟨S, e⟩ := h
  refine ⟨[.scr (ns.map D.int)], [], ⟨H, []⟩, ⟨Same.refl _, rfl, List.nodup_nil, fun a h => by simp at h, fun k a o h => by simp at h⟩, .cons (.scr hS (Reps.ofInts ns)) .nil, rfl, ?_⟩
  rw [e]
  intro v H' g' _ _ r
  cases r
  rfl
end Dg

namespace Lw
open PySem PySem.Spec PyProof.Rows L2 Dg
/-! ### where the defs stand -/
def top (i : Nat) : Stmt := PySem.Challenge.pw_degreerows_k30_whole_families_judged.main.body.getD i (.Pass ⟨0, 0, 0, 0⟩)
abbrev s__law_draw : Stmt := top 31
abbrev s__law_merged : Stmt := top 36
abbrev s__law_pick : Stmt := top 32
abbrev s__law_bent_lots : Stmt := top 45
abbrev s__law_opposite : Stmt := top 37
abbrev s__law_places : Stmt := top 34
abbrev s__law_read : Stmt := top 40
abbrev s__law_great : Stmt := top 33
abbrev s__law_size : Stmt := top 38
abbrev s__law_halves : Stmt := top 41
abbrev s__law_most : Stmt := top 47
abbrev s__law_rest : Stmt := top 39
abbrev s__law_any_piece : Stmt := top 46
abbrev s__law_ends : Stmt := top 35
abbrev s__law_are_halves : Stmt := top 43
abbrev s__law_is_rest : Stmt := top 42
abbrev s__law_family : Stmt := top 44
abbrev s_places_of : Stmt := top 12
abbrev s_turned_about : Stmt := top 14
abbrev s_halves_read : Stmt := top 25
abbrev s_ends_of : Stmt := top 13
abbrev s_single_besides : Stmt := top 20
abbrev s_is_bridge : Stmt := top 21
abbrev s_is_crown : Stmt := top 22
abbrev s_is_halves_of : Stmt := top 23
abbrev s_is_rest_of : Stmt := top 19
abbrev s_rest_read : Stmt := top 24
abbrev s_family_of : Stmt := top 26
abbrev s_is_integer : Stmt := top 7
abbrev s_is_count : Stmt := top 8
abbrev s_is_kind : Stmt := top 10
abbrev s_wrong_kind : Stmt := top 11
abbrev s_is_piece : Stmt := top 27
abbrev s_family : Stmt := top 28
abbrev s__law_right : Stmt := top 48
abbrev s__law_well : Stmt := top 30
abbrev s_law : Stmt := top 49
/-! ### what they do -/
def d_HALVES : D := .tup [.str "stars", .str "bridge", .str "crown"]
def d_MOST_COUNT : D := .int 1000000000000000000000000000000
def d_MOST_DEGREE : D := .int 10000000000000000000000000000000
def d_MOST_KINDS : D := .int 10
def d_READINGS : D := .tup [.str "plain", .str "exchanged", .str "opposite", .str "turned"]
def d_RESTS : D := .tup [.str "ring", .str "pairs", .str "star", .str "hub"]
abbrev N__law_draw : List Str := ["well", "many", "digit", "seed"]
def m__law_draw : SM := (sSeq (sIf (tOfE (eOp gtD (eOpS ixS (eVar 0) (eRet (.int 2))) (eRet (.int 0)))) (sSeq (sPat2 (p2Tp (p2Cons (p2Sub 0 (eRet (.int 2))) (p2Cons (p2O (pNm 2)) p2Nil)) 2) (eCB divmodD (aCons (eOpS ixS (eVar 0) (eRet (.int 2))) (aCons (eVar 1) aNil)))) (sRet (eVar 2))) sSkip) (sSeq (sPat2 (p2Sub 0 (eRet (.int 1))) (eOp addD (eOpS ixS (eVar 0) (eRet (.int 1))) (eRet (.int 1)))) (sSeq (sSet 3 (vE (eCB int1D (aCons (eOpS ixS (eVar 0) (eRet (.int 0))) aNil)))) (sSeq (sPat2 (p2Sub 0 (eRet (.int 0))) (eOp modD (eCB int1D (aCons (eOp addD (eOp addD (eOp mulD (eVar 3) (eRet (.int 44017))) (eOp mulD (eOpS ixS (eVar 0) (eRet (.int 1))) (eRet (.int 52009)))) (eRet (.int 53))) aNil)) (eRet (.int 2147483629)))) (sRet (eOp modD (eCB int1D (aCons (eOp divD (eOpS ixS (eVar 0) (eRet (.int 0))) (eRet (.int 2048))) aNil)) (eVar 1)))))))
def f__law_draw : List D → Sto → Out D := runM 4 m__law_draw
abbrev N__law_merged : List Str := ["lots", "found", "degree", "many"]
def m__law_merged : SM := (sSeq (sSet 1 vDnew) (sSeq (sFor (aItems (eVar 0)) (pTpA (psCons (pNm 2) (psCons (pNm 3) psNil)) 2) (sDput 1 (eVar 2) (eOp addD (eDget2 (dVar 1) (eVar 2) (eRet (.int 0))) (eVar 3)))) (sRet (eCB tupleOfD (aCons (eF (fLc (aItemsL (lF (fSortD (dVar 1) true))) (pNm 2) (tOfE (eOp gtD (eDget (dVar 1) (eVar 2)) (eRet (.int 0)))) (eTup (aCons (eVar 2) (aCons (eDget (dVar 1) (eVar 2)) aNil))) [2])) aNil)))))
def f__law_merged : List D → Sto → Out D := runM 4 m__law_merged
abbrev N__law_pick : List Str := ["well", "choices"]
def m__law_pick : SM := (sRet (eOpS ixS (eVar 1) (eCall 2 f__law_draw (aCons (eVar 0) (aCons (eCB lenD (aCons (eVar 1) aNil)) aNil)))))
def f__law_pick : List D → Sto → Out D := runM 2 m__law_pick
abbrev N__law_bent_lots : List Str := ["well", "lots", "at", "degree", "many", "fresh"]
def m__law_bent_lots : SM := (sSeq (sSet 2 (vE (eCall 2 f__law_draw (aCons (eVar 0) (aCons (eCB lenD (aCons (eVar 1) aNil)) aNil))))) (sSeq (sPat (pTpA (psCons (pNm 3) (psCons (pNm 4) psNil)) 2) (eOpS ixS (eVar 1) (eVar 2))) (sSeq (sSet 5 (vE (eCall 2 f__law_pick (aCons (eVar 0) (aCons (eF (fLst (aCons (eTup (aCons (eVar 3) (aCons (eOp addD (eVar 4) (eRet (.int 1))) aNil))) (aCons (eTup (aCons (eVar 3) (aCons (eCB max2D (aCons (eRet (.int 1)) (aCons (eOp subD (eVar 4) (eRet (.int 1))) aNil))) aNil))) (aCons (eTup (aCons (eOp addD (eVar 3) (eRet (.int 1))) (aCons (eVar 4) aNil))) (aCons (eTup (aCons (eCB max2D (aCons (eRet (.int 0)) (aCons (eOp subD (eVar 3) (eRet (.int 1))) aNil))) (aCons (eVar 4) aNil))) aNil)))))) aNil))))) (sRet (eCall 1 f__law_merged (aCons (eOp addD (eOp addD (eCL listOfL (lE (eSl (eVar 1) oNo (oE (eVar 2))))) (eF (fLst (aCons (eVar 5) aNil)))) (eCL listOfL (lE (eSl (eVar 1) (oE (eOp addD (eVar 2) (eRet (.int 1)))) oNo)))) aNil))))))
def f__law_bent_lots : List D → Sto → Out D := runM 6 m__law_bent_lots
abbrev N__law_opposite : List Str := ["lots", "top", "degree", "many"]
def m__law_opposite : SM := (sRet (eCB tupleOfD (aCons (eF (fLc (aItems (eUn revD (eVar 0))) (pTpA (psCons (pNm 2) (psCons (pNm 3) psNil)) 2) tYs (eTup (aCons (eOp subD (eVar 1) (eVar 2)) (aCons (eVar 3) aNil))) [2, 3])) aNil)))
def f__law_opposite : List D → Sto → Out D := runM 4 m__law_opposite
abbrev N__law_places : List Str := ["lots", "degree", "many"]
def m__law_places : SM := (sRet (eCL sumL (lF (fLc (aItems (eVar 0)) (pTpA (psCons (pNm 1) (psCons (pNm 2) psNil)) 2) tYs (eVar 2) [1, 2]))))
def f__law_places : List D → Sto → Out D := runM 3 m__law_places
abbrev N__law_read : List Str := ["sides_here", "way", "inner", "outer", "a", "b"]
def m__law_read : SM := (sSeq (sPat (pTpA (psCons (pNm 2) (psCons (pNm 3) psNil)) 2) (eVar 0)) (sSeq (sIf (tOfE (eOp gtD (eVar 1) (eRet (.int 1)))) (sSeq (sBind (lvCons (vE (eCall 1 f__law_places (aCons (eVar 2) aNil))) (lvCons (vE (eCall 1 f__law_places (aCons (eVar 3) aNil))) lvNil)) fun ss env S => ofS (set2 4 5 ss env) S) (sBind (lvCons (vE (eCall 2 f__law_opposite (aCons (eVar 2) (aCons (eVar 5) aNil)))) (lvCons (vE (eCall 2 f__law_opposite (aCons (eVar 3) (aCons (eVar 4) aNil)))) lvNil)) fun ss env S => ofS (set2 2 3 ss env) S)) sSkip) (sRet (eIf (tOfE (eInL false (eVar 1) (lF (fLst (aCons (eRet (.int 0)) (aCons (eRet (.int 3)) aNil)))))) (eTup (aCons (eVar 2) (aCons (eVar 3) aNil))) (eTup (aCons (eVar 3) (aCons (eVar 2) aNil)))))))
def f__law_read : List D → Sto → Out D := runM 6 m__law_read
abbrev N__law_great : List Str := ["well", "found", "turn"]
def m__law_great : SM := (sSeq (sSet 1 (vE (eRet (.int 0)))) (sSeq (sFor (aRng rngD1 (aCons (eOp addD (eRet (.int 1)) (eCall 2 f__law_draw (aCons (eVar 0) (aCons (eRet (.int 9)) aNil)))) aNil)) (pNm 2) (sSet 1 (vE (eOp addD (eOp mulD (eRet (.int 1000)) (eVar 1)) (eCall 2 f__law_draw (aCons (eVar 0) (aCons (eRet (.int 1000)) aNil))))))) (sRet (eVar 1))))
def f__law_great : List D → Sto → Out D := runM 3 m__law_great
abbrev N__law_size : List Str := ["well"]
def m__law_size : SM := (sRet (eCall 2 f__law_pick (aCons (eVar 0) (aCons (eF (fLst (aCons (eRet (.int 0)) (aCons (eRet (.int 1)) (aCons (eRet (.int 2)) (aCons (eCall 2 f__law_draw (aCons (eVar 0) (aCons (eRet (.int 9)) aNil))) (aCons (eCall 1 f__law_great (aCons (eVar 0) aNil)) aNil))))))) aNil))))
def f__law_size : List D → Sto → Out D := runM 1 m__law_size
abbrev N__law_halves : List Str := ["well", "p", "q", "r", "way", "found", "b", "inner", "outer"]
def m__law_halves : SM := (sSeq (sBind (lvCons (vE (eOp addD (eRet (.int 1)) (eCall 1 f__law_size (aCons (eVar 0) aNil)))) (lvCons (vE (eOp addD (eRet (.int 2)) (eCall 1 f__law_size (aCons (eVar 0) aNil)))) lvNil)) fun ss env S => ofS (set2 1 2 ss env) S) (sSeq (sBind (lvCons (vE (eOp addD (eRet (.int 1)) (eCall 1 f__law_size (aCons (eVar 0) aNil)))) (lvCons (vE (eCall 2 f__law_draw (aCons (eVar 0) (aCons (eRet (.int 5)) aNil)))) lvNil)) fun ss env S => ofS (set2 3 4 ss env) S) (sSeq (sSet 5 (vE (eTup (aCons (eTup (aCons (eTup (aCons (eVar 1) (aCons (eVar 2) aNil))) aNil)) (aCons (eTup (aCons (eTup (aCons (eRet (.int 1)) (aCons (eOp mulD (eVar 1) (eVar 2)) aNil))) aNil)) aNil))))) (sSeq (sIf (tOfE (eOp eqD (eVar 4) (eRet (.int 1)))) (sSet 5 (vE (eTup (aCons (eTup (aCons (eTup (aCons (eOp addD (eVar 1) (eVar 3)) (aCons (eVar 2) aNil))) (aCons (eTup (aCons (eVar 1) (aCons (eVar 3) aNil))) aNil))) (aCons (eTup (aCons (eTup (aCons (eRet (.int 1)) (aCons (eOp addD (eOp mulD (eOp addD (eVar 1) (eVar 3)) (eVar 2)) (eOp mulD (eVar 1) (eVar 3))) aNil))) aNil)) aNil))))) sSkip) (sSeq (sIf (tOfE (eOp eqD (eVar 4) (eRet (.int 2)))) (sSet 5 (vE (eTup (aCons (eTup (aCons (eTup (aCons (eOp addD (eVar 1) (eRet (.int 1))) (aCons (eOp addD (eVar 2) (eVar 3)) aNil))) aNil)) (aCons (eTup (aCons (eTup (aCons (eVar 2) (aCons (eRet (.int 1)) aNil))) (aCons (eTup (aCons (eRet (.int 1)) (aCons (eOp addD (eOp mulD (eVar 1) (eVar 2)) (eOp mulD (eOp addD (eVar 1) (eRet (.int 1))) (eVar 3))) aNil))) aNil))) aNil))))) sSkip) (sSeq (sIf (tOfE (eOp eqD (eVar 4) (eRet (.int 3)))) (sSeq (sSet 6 (vE (eOp addD (eOp addD (eOp mulD (eRet (.int 2)) (eVar 1)) (eOp mulD (eVar 3) (eOp addD (eVar 1) (eRet (.int 1))))) (eRet (.int 1))))) (sSet 5 (vE (eTup (aCons (eTup (aCons (eTup (aCons (eOp subD (eVar 6) (eRet (.int 1))) (aCons (eRet (.int 1)) aNil))) (aCons (eTup (aCons (eOp addD (eVar 1) (eRet (.int 1))) (aCons (eOp addD (eVar 3) (eRet (.int 2))) aNil))) aNil))) (aCons (eTup (aCons (eTup (aCons (eRet (.int 2)) (aCons (eVar 6) aNil))) aNil)) aNil)))))) sSkip) (sSeq (sIf (tOfE (eOp eqD (eVar 4) (eRet (.int 4)))) (sSet 5 (vE (eTup (aCons (eTup (aCons (eTup (aCons (eRet (.int 2)) (aCons (eOp addD (eRet (.int 3)) (eVar 3)) aNil))) aNil)) (aCons (eTup (aCons (eTup (aCons (eRet (.int 2)) (aCons (eOp addD (eRet (.int 3)) (eVar 3)) aNil))) aNil)) aNil))))) sSkip) (sSeq (sPat (pTpA (psCons (pNm 7) (psCons (pNm 8) psNil)) 2) (eCall 2 f__law_read (aCons (eVar 5) (aCons (eCall 2 f__law_draw (aCons (eVar 0) (aCons (eRet (.int 4)) aNil))) aNil)))) (sRet (eTup (aCons (eTup (aCons (eRet (.str "halves")) (aCons (eVar 7) (aCons (eVar 8) aNil)))) (aCons (eOp ltD (eVar 4) (eRet (.int 4))) aNil))))))))))))
def f__law_halves : List D → Sto → Out D := runM 9 m__law_halves
abbrev N__law_most : List Str := ["piece", "degree", "many", "lots"]
def m__law_most : SM := (sSeq (sIf (tOfE (eInL false (eOpS ixS (eVar 0) (eRet (.int 0))) (lF (fLst (aCons (eRet (.str "alone")) (aCons (eRet (.str "tied")) aNil)))))) (sRet (eOpS ixS (eVar 0) (eRet (.int 1)))) sSkip) (sRet (eCL maxL (lF (fLc (aItems (eSl (eVar 0) (oE (eRet (.int 1))) oNo)) (pNm 3) tYs (eCL maxL (lF (fLc (aItems (eVar 3)) (pTpA (psCons (pNm 1) (psCons (pNm 2) psNil)) 2) tYs (eVar 2) [1, 2]))) [3])))))
def f__law_most : List D → Sto → Out D := runM 4 m__law_most
abbrev N__law_rest : List Str := ["well", "m", "s", "way", "menu", "lots"]
def m__law_rest : SM := (sSeq (sBind (lvCons (vE (eOp addD (eRet (.int 1)) (eCall 1 f__law_size (aCons (eVar 0) aNil)))) (lvCons (vE (eOp addD (eRet (.int 2)) (eCall 1 f__law_size (aCons (eVar 0) aNil)))) lvNil)) fun ss env S => ofS (set2 1 2 ss env) S) (sSeq (sSet 3 (vE (eCall 2 f__law_draw (aCons (eVar 0) (aCons (eRet (.int 6)) aNil))))) (sSeq (sSet 4 (vE (eF (fLst (aCons (eTup (aCons (eTup (aCons (eRet (.int 2)) (aCons (eRet (.int 5)) aNil))) aNil)) (aCons (eTup (aCons (eTup (aCons (eRet (.int 1)) (aCons (eOp addD (eOp mulD (eRet (.int 2)) (eVar 1)) (eRet (.int 2))) aNil))) aNil)) (aCons (eTup (aCons (eTup (aCons (eVar 2) (aCons (eRet (.int 1)) aNil))) (aCons (eTup (aCons (eRet (.int 1)) (aCons (eOp addD (eVar 2) (eOp mulD (eRet (.int 2)) (eVar 1))) aNil))) aNil))) (aCons (eTup (aCons (eTup (aCons (eOp addD (eOp mulD (eRet (.int 2)) (eVar 1)) (eRet (.int 2))) (aCons (eRet (.int 1)) aNil))) (aCons (eTup (aCons (eRet (.int 2)) (aCons (eOp addD (eOp mulD (eRet (.int 2)) (eVar 1)) (eRet (.int 3))) aNil))) aNil))) aNil)))))))) (sSeq (sSet 4 (vE (eOp addD (eVar 4) (eF (fLst (aCons (eTup (aCons (eTup (aCons (eRet (.int 2)) (aCons (eOp addD (eRet (.int 5)) (eVar 1)) aNil))) aNil)) (aCons (eTup (aCons (eTup (aCons (eRet (.int 3)) (aCons (eOp addD (eOp mulD (eRet (.int 2)) (eVar 1)) (eRet (.int 6))) aNil))) aNil)) aNil))))))) (sSeq (sSet 5 (vE (eOpS ixS (eVar 4) (eVar 3)))) (sSeq (sIf (tOfE (eOp eqD (eCall 2 f__law_draw (aCons (eVar 0) (aCons (eRet (.int 2)) aNil))) (eRet (.int 0)))) (sSet 5 (vE (eCall 2 f__law_opposite (aCons (eVar 5) (aCons (eOp subD (eCall 1 f__law_places (aCons (eVar 5) aNil)) (eRet (.int 1))) aNil))))) sSkip) (sRet (eTup (aCons (eTup (aCons (eRet (.str "rest")) (aCons (eVar 5) aNil))) (aCons (eOp ltD (eVar 3) (eRet (.int 4))) aNil))))))))))
def f__law_rest : List D → Sto → Out D := runM 6 m__law_rest
abbrev N__law_any_piece : List Str := ["well", "way", "piece", "at"]
def m__law_any_piece : SM := (sSeq (sSet 1 (vE (eCall 2 f__law_draw (aCons (eVar 0) (aCons (eRet (.int 5)) aNil))))) (sSeq (sIf (tOfE (eOp eqD (eVar 1) (eRet (.int 0)))) (sRet (eTup (aCons (eCall 2 f__law_pick (aCons (eVar 0) (aCons (eF (fLst (aCons (eRet (.str "alone")) (aCons (eRet (.str "tied")) aNil)))) aNil))) (aCons (eOp addD (eRet (.int 1)) (eCall 1 f__law_size (aCons (eVar 0) aNil))) aNil)))) sSkip) (sSeq (sSet 2 (vE (eIf (tOfE (eOp ltD (eVar 1) (eRet (.int 3)))) (eOpS ixS (eCall 1 f__law_rest (aCons (eVar 0) aNil)) (eRet (.int 0))) (eOpS ixS (eCall 1 f__law_halves (aCons (eVar 0) aNil)) (eRet (.int 0)))))) (sSeq (sIf (tOfE (eOp gtD (eCall 1 f__law_most (aCons (eVar 2) aNil)) (eOp powD (eRet (.int 10)) (eRet (.int 29))))) (sRet (eTup (aCons (eRet (.str "rest")) (aCons (eTup (aCons (eTup (aCons (eRet (.int 2)) (aCons (eRet (.int 5)) aNil))) aNil)) aNil)))) sSkip) (sSeq (sSet 3 (vE (eOp addD (eRet (.int 1)) (eCall 2 f__law_draw (aCons (eVar 0) (aCons (eOp subD (eCB lenD (aCons (eVar 2) aNil)) (eRet (.int 1))) aNil)))))) (sSeq (sIf (tOfE (eOp eqD (eCall 2 f__law_draw (aCons (eVar 0) (aCons (eRet (.int 2)) aNil))) (eRet (.int 0)))) (sRet (eOp addD (eOp addD (eSl (eVar 2) oNo (oE (eVar 3))) (eTup (aCons (eCall 2 f__law_bent_lots (aCons (eVar 0) (aCons (eOpS ixS (eVar 2) (eVar 3)) aNil))) aNil))) (eSl (eVar 2) (oE (eOp addD (eVar 3) (eRet (.int 1)))) oNo))) sSkip) (sRet (eVar 2))))))))
def f__law_any_piece : List D → Sto → Out D := runM 4 m__law_any_piece
abbrev N__law_ends : List Str := ["lots", "degree", "many"]
def m__law_ends : SM := (sRet (eCL sumL (lF (fLc (aItems (eVar 0)) (pTpA (psCons (pNm 1) (psCons (pNm 2) psNil)) 2) tYs (eOp mulD (eVar 1) (eVar 2)) [1, 2]))))
def f__law_ends : List D → Sto → Out D := runM 3 m__law_ends
abbrev N__law_are_halves : List Str := ["word", "inner", "outer", "a", "b", "degree", "many", "kind", "odd", "rest"]
def m__law_are_halves : SM := (sSeq (sBind (lvCons (vE (eCall 1 f__law_places (aCons (eVar 1) aNil))) (lvCons (vE (eCall 1 f__law_places (aCons (eVar 2) aNil))) lvNil)) fun ss env S => ofS (set2 3 4 ss env) S) (sSeq (sIf (tOfE (eOp neD (eCall 1 f__law_ends (aCons (eVar 1) aNil)) (eCall 1 f__law_ends (aCons (eVar 2) aNil)))) (sRet (eRet (.bl false))) sSkip) (sSeq (sIf (tOfE (eOp eqD (eVar 0) (eRet (.str "stars")))) (sRet (eAnd (eOp eqD (eF (fLc (aItems (eVar 2)) (pTpA (psCons (pNm 5) (psCons (pNm 6) psNil)) 2) tYs (eVar 5) [5, 6])) (eF (fLst (aCons (eRet (.int 1)) aNil)))) (eAnd (eOp gtD (eOpS ixS (eOpS ixS (eVar 1) (eUn negD (eRet (.int 1)))) (eRet (.int 0))) (eRet (.int 0))) (eOp gtD (eVar 3) (eRet (.int 1)))))) sSkip) (sSeq (sIf (tOfE (eOp eqD (eVar 0) (eRet (.str "bridge")))) (sSeq (sSet 8 (vE (eF (fLc (aItems (eVar 2)) (pNm 7) (tOfE (eOp neD (eOpS ixS (eVar 7) (eRet (.int 0))) (eRet (.int 1)))) (eVar 7) [7])))) (sSeq (sIf (mOr (tOfE (eOp neD (eCB lenD (aCons (eVar 1) aNil)) (eRet (.int 1)))) (mOr (tOfE (eOp ltD (eOpS ixS (eOpS ixS (eVar 1) (eRet (.int 0))) (eRet (.int 0))) (eRet (.int 2)))) (mOr (tOfE (eOp neD (eCB lenD (aCons (eVar 8) aNil)) (eRet (.int 1)))) (tOfE (eOp neD (eOpS ixS (eOpS ixS (eVar 8) (eRet (.int 0))) (eRet (.int 1))) (eRet (.int 1))))))) (sRet (eRet (.bl false))) sSkip) (sRet (eChain ltD ltD (eRet (.int 1)) (eOpS ixS (eOpS ixS (eVar 8) (eRet (.int 0))) (eRet (.int 0))) (eVar 3))))) sSkip) (sSeq (sSet 9 (vE (eIf (tOfE (eInL false (eOp subD (eVar 4) (eRet (.int 1))) (lF (fLc (aItems (eVar 1)) (pTpA (psCons (pNm 5) (psCons (pNm 6) psNil)) 2) tYs (eVar 5) [5, 6])))) (eCL listOfL (lE (eCall 1 f__law_merged (aCons (eOp addD (eCL listOfL (lE (eVar 1))) (eF (fLst (aCons (eTup (aCons (eOp subD (eVar 4) (eRet (.int 1))) (aCons (eUn negD (eRet (.int 1))) aNil))) aNil)))) aNil)))) (eF (fLst aNil))))) (sSeq (sIf (mOr (tOfE (eOp neD (eF (fLc (aItems (eVar 2)) (pTpA (psCons (pNm 5) (psCons (pNm 6) psNil)) 2) tYs (eVar 5) [5, 6])) (eF (fLst (aCons (eRet (.int 2)) aNil))))) (mOr (tOfE (eOp ltD (eVar 3) (eRet (.int 4)))) (tOfE (eOp neD (eCB lenD (aCons (eVar 9) aNil)) (eRet (.int 1)))))) (sRet (eRet (.bl false))) sSkip) (sRet (eOp gtD (eOpS ixS (eOpS ixS (eVar 9) (eRet (.int 0))) (eRet (.int 0))) (eRet (.int 1))))))))))
def f__law_are_halves : List D → Sto → Out D := runM 10 m__law_are_halves
abbrev N__law_is_rest : List Str := ["word", "lots", "top", "low", "many"]
def m__law_is_rest : SM := (sSeq (sIf (tOfE (eOp eqD (eVar 0) (eRet (.str "ring")))) (sRet (eOp eqD (eVar 1) (eTup (aCons (eTup (aCons (eRet (.int 2)) (aCons (eRet (.int 5)) aNil))) aNil)))) sSkip) (sSeq (sIf (tOfE (eOp eqD (eVar 0) (eRet (.str "pairs")))) (sRet (eAnd (eOp eqD (eCB lenD (aCons (eVar 1) aNil)) (eRet (.int 1))) (eAnd (eOp eqD (eOpS ixS (eOpS ixS (eVar 1) (eRet (.int 0))) (eRet (.int 0))) (eRet (.int 1))) (eAnd (eOp gtD (eOpS ixS (eOpS ixS (eVar 1) (eRet (.int 0))) (eRet (.int 1))) (eRet (.int 3))) (eOp eqD (eOp modD (eCB int1D (aCons (eOpS ixS (eOpS ixS (eVar 1) (eRet (.int 0))) (eRet (.int 1))) aNil)) (eRet (.int 2))) (eRet (.int 0))))))) sSkip) (sSeq (sIf (mOr (tOfE (eOp neD (eCB lenD (aCons (eVar 1) aNil)) (eRet (.int 2)))) (tOfE (eOp neD (eOpS ixS (eOpS ixS (eVar 1) (eRet (.int 0))) (eRet (.int 1))) (eRet (.int 1))))) (sRet (eRet (.bl false))) sSkip) (sSeq (sPar3 2 3 4 (aCons (eOpS ixS (eOpS ixS (eVar 1) (eRet (.int 0))) (eRet (.int 0))) (aCons (eOpS ixS (eOpS ixS (eVar 1) (eRet (.int 1))) (eRet (.int 0))) (aCons (eOpS ixS (eOpS ixS (eVar 1) (eRet (.int 1))) (eRet (.int 1))) aNil)))) (sSeq (sIf (tOfE (eOp eqD (eVar 0) (eRet (.str "star")))) (sRet (eAnd (eOp eqD (eVar 3) (eRet (.int 1))) (eAnd (eOp gtD (eVar 2) (eRet (.int 1))) (eAnd (eOp gtD (eVar 4) (eVar 2)) (eOp eqD (eOp modD (eCB int1D (aCons (eOp subD (eVar 4) (eVar 2)) aNil)) (eRet (.int 2))) (eRet (.int 0))))))) sSkip) (sRet (eAnd (eOp eqD (eVar 3) (eRet (.int 2))) (eAnd (eOp gtD (eVar 2) (eRet (.int 3))) (eAnd (eOp eqD (eOp modD (eCB int1D (aCons (eVar 2) aNil)) (eRet (.int 2))) (eRet (.int 0))) (eOp eqD (eVar 4) (eOp addD (eVar 2) (eRet (.int 1)))))))))))))
def f__law_is_rest : List D → Sto → Out D := runM 5 m__law_is_rest
abbrev N__law_family : List Str := ["piece", "turned", "word", "lots", "reading", "way", "inner", "outer"]
def m__law_family : SM := (sSeq (sIf (tOfE (eInL false (eOpS ixS (eVar 0) (eRet (.int 0))) (lF (fLst (aCons (eRet (.str "alone")) (aCons (eRet (.str "tied")) aNil)))))) (sRet (eTup (aCons (eOpS ixS (eVar 0) (eRet (.int 0))) (aCons (eRet (.str "plain")) aNil)))) sSkip) (sSeq (sIf (tOfE (eOp eqD (eOpS ixS (eVar 0) (eRet (.int 0))) (eRet (.str "rest")))) (sSeq (sSet 1 (vE (eCall 2 f__law_opposite (aCons (eOpS ixS (eVar 0) (eRet (.int 1))) (aCons (eOp subD (eCall 1 f__law_places (aCons (eOpS ixS (eVar 0) (eRet (.int 1))) aNil)) (eRet (.int 1))) aNil))))) (sSeq (sFor (aItems (eF (fLst (aCons (eRet (.str "ring")) (aCons (eRet (.str "pairs")) (aCons (eRet (.str "star")) (aCons (eRet (.str "hub")) aNil))))))) (pNm 2) (sFor (aItems (eF (fLst (aCons (eTup (aCons (eCB tupleOfD (aCons (eOpS ixS (eVar 0) (eRet (.int 1))) aNil)) (aCons (eRet (.str "plain")) aNil))) (aCons (eTup (aCons (eVar 1) (aCons (eRet (.str "opposite")) aNil))) aNil))))) (pTpA (psCons (pNm 3) (psCons (pNm 4) psNil)) 2) (sIf (mAnd (tOfE (eOp geD (eOpS ixS (eOpS ixS (eVar 3) (eUn negD (eRet (.int 1)))) (eRet (.int 0))) (eRet (.int 0)))) (tOfE (eCall 2 f__law_is_rest (aCons (eVar 2) (aCons (eVar 3) aNil))))) (sRet (eTup (aCons (eVar 2) (aCons (eVar 4) aNil)))) sSkip))) (sRet (eRet .non)))) sSkip) (sSeq (sFor (aItems (eF (fLst (aCons (eRet (.str "stars")) (aCons (eRet (.str "bridge")) (aCons (eRet (.str "crown")) aNil)))))) (pNm 2) (sFor (aRng rngD1 (aCons (eRet (.int 4)) aNil)) (pNm 5) (sSeq (sPat (pTpA (psCons (pNm 6) (psCons (pNm 7) psNil)) 2) (eCall 2 f__law_read (aCons (eTup (aCons (eOpS ixS (eVar 0) (eRet (.int 1))) (aCons (eOpS ixS (eVar 0) (eRet (.int 2))) aNil))) (aCons (eVar 5) aNil)))) (sIf (mAnd (tOfE (eOp geD (eOpS ixS (eOpS ixS (eVar 6) (eUn negD (eRet (.int 1)))) (eRet (.int 0))) (eRet (.int 0)))) (mAnd (tOfE (eOp geD (eOpS ixS (eOpS ixS (eVar 7) (eUn negD (eRet (.int 1)))) (eRet (.int 0))) (eRet (.int 0)))) (tOfE (eCall 3 f__law_are_halves (aCons (eVar 2) (aCons (eVar 6) (aCons (eVar 7) aNil))))))) (sRet (eTup (aCons (eVar 2) (aCons (eOpS ixS (eF (fLst (aCons (eRet (.str "plain")) (aCons (eRet (.str "exchanged")) (aCons (eRet (.str "opposite")) (aCons (eRet (.str "turned")) aNil)))))) (eVar 5)) aNil)))) sSkip)))) (sRet (eRet .non)))))
def f__law_family : List D → Sto → Out D := runM 8 m__law_family
abbrev N_places_of : List Str := ["kinds", "degree", "count"]
def m_places_of : SM := (sRet (eCL sumL (lF (fLc (aItems (eVar 0)) (pTpA (psCons (pNm 1) (psCons (pNm 2) psNil)) 2) tYs (eVar 2) [1, 2]))))
def f_places_of : List D → Sto → Out D := runM 3 m_places_of
abbrev N_turned_about : List Str := ["kinds", "top", "degree", "count"]
def m_turned_about : SM := (sSeq (sIf (mAnd (tOfE (eOp gtD (eCB lenD (aCons (eVar 0) aNil)) (eRet (.int 0)))) (tOfE (eOp gtD (eOpS ixS (eOpS ixS (eVar 0) (eRet (.int 0))) (eRet (.int 0))) (eVar 1)))) (sRet (eRet .non)) sSkip) (sRet (eF (fLc (aItems (eUn revD (eCL listOfL (lE (eVar 0))))) (pTpA (psCons (pNm 2) (psCons (pNm 3) psNil)) 2) tYs (eTup (aCons (eOp subD (eVar 1) (eVar 2)) (aCons (eVar 3) aNil))) [2, 3]))))
def f_turned_about : List D → Sto → Out D := runM 4 m_turned_about
abbrev N_halves_read : List Str := ["inner", "outer", "reading", "found"]
def m_halves_read : SM := (sSeq (sIf (tOfE (eInL false (eVar 2) (lE (eTup (aCons (eRet (.str "plain")) (aCons (eRet (.str "exchanged")) aNil)))))) (sSet 3 (vE (eTup (aCons (eCL listOfL (lE (eVar 0))) (aCons (eCL listOfL (lE (eVar 1))) aNil))))) (sSet 3 (vE (eTup (aCons (eCall 2 f_turned_about (aCons (eVar 0) (aCons (eCall 1 f_places_of (aCons (eVar 1) aNil)) aNil))) (aCons (eCall 2 f_turned_about (aCons (eVar 1) (aCons (eCall 1 f_places_of (aCons (eVar 0) aNil)) aNil))) aNil)))))) (sSeq (sIf (mOr (tOfE (eUn isN (eOpS ixS (eVar 3) (eRet (.int 0))))) (tOfE (eUn isN (eOpS ixS (eVar 3) (eRet (.int 1)))))) (sRet (eRet .non)) sSkip) (sRet (eIf (tOfE (eInL false (eVar 2) (lE (eTup (aCons (eRet (.str "plain")) (aCons (eRet (.str "turned")) aNil)))))) (eVar 3) (eTup (aCons (eOpS ixS (eVar 3) (eRet (.int 1))) (aCons (eOpS ixS (eVar 3) (eRet (.int 0))) aNil)))))))
def f_halves_read : List D → Sto → Out D := runM 4 m_halves_read
abbrev N_ends_of : List Str := ["kinds", "degree", "count"]
def m_ends_of : SM := (sRet (eCL sumL (lF (fLc (aItems (eVar 0)) (pTpA (psCons (pNm 1) (psCons (pNm 2) psNil)) 2) tYs (eOp mulD (eVar 1) (eVar 2)) [1, 2]))))
def f_ends_of : List D → Sto → Out D := runM 3 m_ends_of
abbrev N_single_besides : List Str := ["kinds", "degree", "kind", "others"]
def m_single_besides : SM := (sSeq (sSet 3 (vE (eF (fLc (aItems (eVar 0)) (pNm 2) (tOfE (eOp neD (eOpS ixS (eVar 2) (eRet (.int 0))) (eVar 1))) (eVar 2) [2])))) (sRet (eIf (mAnd (tOfE (eOp eqD (eCB lenD (aCons (eVar 3) aNil)) (eRet (.int 1)))) (tOfE (eOp eqD (eOpS ixS (eOpS ixS (eVar 3) (eRet (.int 0))) (eRet (.int 1))) (eRet (.int 1))))) (eOpS ixS (eOpS ixS (eVar 3) (eRet (.int 0))) (eRet (.int 0))) (eRet .non))))
def f_single_besides : List D → Sto → Out D := runM 4 m_single_besides
abbrev N_is_bridge : List Str := ["inner", "outer", "special"]
def m_is_bridge : SM := (sSeq (sSet 2 (vE (eCall 2 f_single_besides (aCons (eVar 1) (aCons (eRet (.int 1)) aNil))))) (sSeq (sIf (mOr (tOfE (eOp neD (eCB lenD (aCons (eVar 0) aNil)) (eRet (.int 1)))) (mOr (tOfE (eOp ltD (eOpS ixS (eOpS ixS (eVar 0) (eRet (.int 0))) (eRet (.int 0))) (eRet (.int 2)))) (tOfE (eUn isN (eVar 2))))) (sRet (eRet (.bl false))) sSkip) (sRet (eAnd (eChain leD leD (eRet (.int 2)) (eVar 2) (eOp subD (eOpS ixS (eOpS ixS (eVar 0) (eRet (.int 0))) (eRet (.int 1))) (eRet (.int 1)))) (eOp gtD (eCall 1 f_places_of (aCons (eVar 1) aNil)) (eRet (.int 1)))))))
def f_is_bridge : List D → Sto → Out D := runM 3 m_is_bridge
abbrev N_is_crown : List Str := ["inner", "outer", "many", "wide", "degree", "count"]
def m_is_crown : SM := (sSeq (sBind (lvCons (vE (eCall 1 f_places_of (aCons (eVar 0) aNil))) (lvCons (vE (eCall 1 f_places_of (aCons (eVar 1) aNil))) lvNil)) fun ss env S => ofS (set2 2 3 ss env) S) (sSeq (sIf (mOr (tOfE (eOp neD (eCB lenD (aCons (eVar 1) aNil)) (eRet (.int 1)))) (mOr (tOfE (eOp neD (eOpS ixS (eOpS ixS (eVar 1) (eRet (.int 0))) (eRet (.int 0))) (eRet (.int 2)))) (tOfE (eOp ltD (eVar 2) (eRet (.int 4)))))) (sRet (eRet (.bl false))) sSkip) (sSeq (sIf (tOfE (eOp eqD (eCB lenD (aCons (eVar 0) aNil)) (eRet (.int 1)))) (sRet (eAnd (eOp eqD (eOpS ixS (eOpS ixS (eVar 0) (eRet (.int 0))) (eRet (.int 0))) (eOp subD (eVar 3) (eRet (.int 1)))) (eOp gtD (eVar 3) (eRet (.int 2))))) sSkip) (sSeq (sIf (mOr (tOfE (eOp neD (eCB lenD (aCons (eVar 0) aNil)) (eRet (.int 2)))) (tOfE (eOp ltD (eOpS ixS (eOpS ixS (eVar 0) (eRet (.int 1))) (eRet (.int 0))) (eRet (.int 2))))) (sRet (eRet (.bl false))) sSkip) (sRet (eInL false (eOp subD (eVar 3) (eRet (.int 1))) (lF (fLc (aItems (eVar 0)) (pTpA (psCons (pNm 4) (psCons (pNm 5) psNil)) 2) (tOfE (eOp eqD (eVar 5) (eRet (.int 1)))) (eVar 4) [4, 5]))))))))
def f_is_crown : List D → Sto → Out D := runM 6 m_is_crown
abbrev N_is_halves_of : List Str := ["word", "inner", "outer"]
def m_is_halves_of : SM := (sSeq (sIf (tOfE (eOp neD (eCall 1 f_ends_of (aCons (eVar 1) aNil)) (eCall 1 f_ends_of (aCons (eVar 2) aNil)))) (sRet (eRet (.bl false))) sSkip) (sSeq (sIf (tOfE (eOp eqD (eVar 0) (eRet (.str "stars")))) (sRet (eAnd (eOp eqD (eCB lenD (aCons (eVar 2) aNil)) (eRet (.int 1))) (eAnd (eOp eqD (eOpS ixS (eOpS ixS (eVar 2) (eRet (.int 0))) (eRet (.int 0))) (eRet (.int 1))) (eAnd (eOp geD (eOpS ixS (eOpS ixS (eVar 1) (eUn negD (eRet (.int 1)))) (eRet (.int 0))) (eRet (.int 1))) (eOp geD (eCall 1 f_places_of (aCons (eVar 1) aNil)) (eRet (.int 2))))))) sSkip) (sRet (eIf (tOfE (eOp eqD (eVar 0) (eRet (.str "bridge")))) (eCall 2 f_is_bridge (aCons (eVar 1) (aCons (eVar 2) aNil))) (eCall 2 f_is_crown (aCons (eVar 1) (aCons (eVar 2) aNil)))))))
def f_is_halves_of : List D → Sto → Out D := runM 3 m_is_halves_of
abbrev N_is_rest_of : List Str := ["word", "kinds", "great", "single", "degree", "count"]
def m_is_rest_of : SM := (sSeq (sIf (tOfE (eOp eqD (eVar 0) (eRet (.str "ring")))) (sRet (eOp eqD (eVar 1) (eF (fLst (aCons (eTup (aCons (eRet (.int 2)) (aCons (eRet (.int 5)) aNil))) aNil))))) sSkip) (sSeq (sIf (tOfE (eOp eqD (eVar 0) (eRet (.str "pairs")))) (sRet (eAnd (eOp eqD (eCB lenD (aCons (eVar 1) aNil)) (eRet (.int 1))) (eAnd (eOp eqD (eOpS ixS (eOpS ixS (eVar 1) (eRet (.int 0))) (eRet (.int 0))) (eRet (.int 1))) (eAnd (eOp geD (eOpS ixS (eOpS ixS (eVar 1) (eRet (.int 0))) (eRet (.int 1))) (eRet (.int 4))) (eOp eqD (eOp modD (eOpS ixS (eOpS ixS (eVar 1) (eRet (.int 0))) (eRet (.int 1))) (eRet (.int 2))) (eRet (.int 0))))))) sSkip) (sSeq (sIf (mOr (tOfE (eOp neD (eCB lenD (aCons (eVar 1) aNil)) (eRet (.int 2)))) (tOfE (eOp neD (eOpS ixS (eOpS ixS (eVar 1) (eRet (.int 0))) (eRet (.int 1))) (eRet (.int 1))))) (sRet (eRet (.bl false))) sSkip) (sSeq (sPat (pTpA (psCons (pTpA (psCons (pNm 2) (psCons (pNm 3) psNil)) 2) (psCons (pTpA (psCons (pNm 4) (psCons (pNm 5) psNil)) 2) psNil)) 2) (eVar 1)) (sSeq (sIf (tOfE (eOp eqD (eVar 0) (eRet (.str "star")))) (sRet (eAnd (eOp eqD (eVar 4) (eRet (.int 1))) (eAnd (eOp geD (eVar 2) (eRet (.int 2))) (eAnd (eOp gtD (eVar 5) (eVar 2)) (eOp eqD (eOp modD (eOp subD (eVar 5) (eVar 2)) (eRet (.int 2))) (eRet (.int 0))))))) sSkip) (sRet (eAnd (eOp eqD (eVar 4) (eRet (.int 2))) (eAnd (eOp geD (eVar 2) (eRet (.int 4))) (eAnd (eOp eqD (eOp modD (eVar 2) (eRet (.int 2))) (eRet (.int 0))) (eOp eqD (eVar 5) (eOp addD (eVar 2) (eRet (.int 1)))))))))))))
def f_is_rest_of : List D → Sto → Out D := runM 6 m_is_rest_of
abbrev N_rest_read : List Str := ["kinds", "reading"]
def m_rest_read : SM := (sRet (eIf (tOfE (eOp eqD (eVar 1) (eRet (.str "plain")))) (eCL listOfL (lE (eVar 0))) (eCall 2 f_turned_about (aCons (eVar 0) (aCons (eOp subD (eCall 1 f_places_of (aCons (eVar 0) aNil)) (eRet (.int 1))) aNil)))))
def f_rest_read : List D → Sto → Out D := runM 2 m_rest_read
abbrev N_family_of : List Str := ["piece", "word", "reading", "kinds", "sides"]
def m_family_of : SM := (sSeq (sIf (tOfE (eInL false (eOpS ixS (eVar 0) (eRet (.int 0))) (lE (eTup (aCons (eRet (.str "alone")) (aCons (eRet (.str "tied")) aNil)))))) (sRet (eTup (aCons (eOpS ixS (eVar 0) (eRet (.int 0))) (aCons (eRet (.str "plain")) aNil)))) sSkip) (sSeq (sIf (tOfE (eOp eqD (eOpS ixS (eVar 0) (eRet (.int 0))) (eRet (.str "rest")))) (sSeq (sFor (aItems (eRet d_RESTS)) (pNm 1) (sFor (aItems (eTup (aCons (eRet (.str "plain")) (aCons (eRet (.str "opposite")) aNil)))) (pNm 2) (sSeq (sSet 3 (vE (eCall 2 f_rest_read (aCons (eOpS ixS (eVar 0) (eRet (.int 1))) (aCons (eVar 2) aNil))))) (sIf (mAnd (tOfE (eUn notN (eVar 3))) (tOfE (eCall 2 f_is_rest_of (aCons (eVar 1) (aCons (eVar 3) aNil))))) (sRet (eTup (aCons (eVar 1) (aCons (eVar 2) aNil)))) sSkip)))) (sRet (eRet .non))) sSkip) (sSeq (sFor (aItems (eRet d_HALVES)) (pNm 1) (sFor (aItems (eRet d_READINGS)) (pNm 2) (sSeq (sSet 4 (vE (eCall 3 f_halves_read (aCons (eOpS ixS (eVar 0) (eRet (.int 1))) (aCons (eOpS ixS (eVar 0) (eRet (.int 2))) (aCons (eVar 2) aNil)))))) (sIf (mAnd (tOfE (eUn notN (eVar 4))) (tOfE (eCall 3 f_is_halves_of (aCons (eVar 1) (aCons (eOpS ixS (eVar 4) (eRet (.int 0))) (aCons (eOpS ixS (eVar 4) (eRet (.int 1))) aNil)))))) (sRet (eTup (aCons (eVar 1) (aCons (eVar 2) aNil)))) sSkip)))) (sRet (eRet .non)))))
def f_family_of : List D → Sto → Out D := runM 5 m_family_of
abbrev N_is_integer : List Str := ["value"]
def m_is_integer : SM := (sRet (eAnd (eCB isiD (aCons (eVar 0) (aCons (eRet (.raw (.ty "int"))) aNil))) (eUn notD (eCB isiD (aCons (eVar 0) (aCons (eRet (.raw (.ty "bool"))) aNil))))))
def f_is_integer : List D → Sto → Out D := runM 1 m_is_integer
abbrev N_is_count : List Str := ["value"]
def m_is_count : SM := (sRet (eAnd (eCall 1 f_is_integer (aCons (eVar 0) aNil)) (eOp geD (eVar 0) (eRet (.int 0)))))
def f_is_count : List D → Sto → Out D := runM 1 m_is_count
abbrev N_is_kind : List Str := ["value", "before"]
def m_is_kind : SM := (sSeq (sIf (mOr (mNot (tOfE (eCB isiD (aCons (eVar 0) (aCons (eRet (.raw (.ty "tuple"))) aNil))))) (mOr (tOfE (eOp neD (eCB lenD (aCons (eVar 0) aNil)) (eRet (.int 2)))) (mOr (mNot (tOfE (eCall 1 f_is_count (aCons (eOpS ixS (eVar 0) (eRet (.int 0))) aNil)))) (tOfE (eOp gtD (eOpS ixS (eVar 0) (eRet (.int 0))) (eRet d_MOST_DEGREE)))))) (sRet (eRet (.bl false))) sSkip) (sSeq (sIf (mOr (mNot (tOfE (eCall 1 f_is_integer (aCons (eOpS ixS (eVar 0) (eRet (.int 1))) aNil)))) (mNot (tOfE (eChain leD leD (eRet (.int 1)) (eOpS ixS (eVar 0) (eRet (.int 1))) (eRet d_MOST_COUNT))))) (sRet (eRet (.bl false))) sSkip) (sRet (eOr (eUn isN (eVar 1)) (eOp ltD (eOpS ixS (eVar 0) (eRet (.int 0))) (eOpS ixS (eVar 1) (eRet (.int 0))))))))
def f_is_kind : List D → Sto → Out D := runM 2 m_is_kind
abbrev N_wrong_kind : List Str := ["value", "at", "kind"]
def m_wrong_kind : SM := (sSeq (sIf (mOr (mNot (tOfE (eCB isiD (aCons (eVar 0) (aCons (eRet (.raw (.ty "tuple"))) aNil))))) (tOfE (eOp eqD (eCB lenD (aCons (eVar 0) aNil)) (eRet (.int 0))))) (sRet (eUn negD (eRet (.int 1)))) sSkip) (sSeq (sFor (aEnum (eVar 0)) (pTpA (psCons (pNm 1) (psCons (pNm 2) psNil)) 2) (sIf (mOr (tOfE (eOp eqD (eVar 1) (eRet d_MOST_KINDS))) (mNot (tOfE (eCall 2 f_is_kind (aCons (eVar 2) (aCons (eIf (tOfE (eOp eqD (eVar 1) (eRet (.int 0)))) (eRet .non) (eOpS ixS (eVar 0) (eOp subD (eVar 1) (eRet (.int 1))))) aNil)))))) (sRet (eVar 1)) sSkip)) (sRet (eRet .non))))
def f_wrong_kind : List D → Sto → Out D := runM 3 m_wrong_kind
abbrev N_is_piece : List Str := ["value", "kinds"]
def m_is_piece : SM := (sSeq (sIf (mOr (mNot (tOfE (eCB isiD (aCons (eVar 0) (aCons (eRet (.raw (.ty "tuple"))) aNil))))) (mOr (tOfE (eOp ltD (eCB lenD (aCons (eVar 0) aNil)) (eRet (.int 2)))) (mNot (tOfE (eCB isiD (aCons (eOpS ixS (eVar 0) (eRet (.int 0))) (aCons (eRet (.raw (.ty "str"))) aNil))))))) (sRet (eRet (.bl false))) sSkip) (sSeq (sIf (tOfE (eInL false (eOpS ixS (eVar 0) (eRet (.int 0))) (lE (eTup (aCons (eRet (.str "alone")) (aCons (eRet (.str "tied")) aNil)))))) (sRet (eAnd (eOp eqD (eCB lenD (aCons (eVar 0) aNil)) (eRet (.int 2))) (eAnd (eCall 1 f_is_integer (aCons (eOpS ixS (eVar 0) (eRet (.int 1))) aNil)) (eOp geD (eOpS ixS (eVar 0) (eRet (.int 1))) (eRet (.int 1)))))) sSkip) (sSeq (sIf (tOfE (eOp eqD (eOpS ixS (eVar 0) (eRet (.int 0))) (eRet (.str "rest")))) (sRet (eAnd (eOp eqD (eCB lenD (aCons (eVar 0) aNil)) (eRet (.int 2))) (eUn isN (eCall 1 f_wrong_kind (aCons (eOpS ixS (eVar 0) (eRet (.int 1))) aNil))))) sSkip) (sRet (eAnd (eOp eqD (eOpS ixS (eVar 0) (eRet (.int 0))) (eRet (.str "halves"))) (eAnd (eOp eqD (eCB lenD (aCons (eVar 0) aNil)) (eRet (.int 3))) (eOp eqD (eF (fLc (aItems (eSl (eVar 0) (oE (eRet (.int 1))) oNo)) (pNm 1) tYs (eCall 1 f_wrong_kind (aCons (eVar 1) aNil)) [1])) (eF (fLst (aCons (eRet .non) (aCons (eRet .non) aNil)))))))))))
def f_is_piece : List D → Sto → Out D := runM 2 m_is_piece
abbrev N_family : List Str := ["piece"]
def m_family : SM := (sSeq (sIf (mNot (tOfE (eCall 1 f_is_piece (aCons (eVar 0) aNil)))) sNo sSkip) (sRet (eCall 1 f_family_of (aCons (eVar 0) aNil))))
def f_family : List D → Sto → Out D := runM 1 m_family
abbrev N__law_right : List Str := ["well", "turn", "piece", "due"]
def m__law_right : SM := (sSeq (sFor (aRng rngD1 (aCons (eRet (.int 8)) aNil)) (pNm 1) (sSeq (sSet 2 (vE (eCall 1 f__law_any_piece (aCons (eVar 0) aNil)))) (sSeq (sSet 3 (vE (eCall 1 f__law_family (aCons (eVar 2) aNil)))) (sIf (tOfE (eOp neD (eCB reprD (aCons (eF (fLst (aCons (eCall 1 f_family (aCons (eVar 2) aNil)) (aCons (eCallK 1 1 [0] f_family (aCons (eVar 2) aNil)) aNil)))) aNil)) (eCB reprD (aCons (eF (fLst (aCons (eVar 3) (aCons (eVar 3) aNil)))) aNil)))) (sRet (eRet (.bl false))) sSkip)))) (sRet (eRet (.bl true))))
def f__law_right : List D → Sto → Out D := runM 4 m__law_right
abbrev N__law_well : List Str := ["script", "spot", "state", "cell", "own"]
def m__law_well : SM := (sSeq (sSet 2 (vE (eOp addD (eRet (.int 71993)) (eOp mulD (eRet (.int 683)) (eVar 1))))) (sSeq (sFor (aItems (eOp addD (eSl (eVar 0) oNo (oE (eRet (.int 4)))) (eSl (eVar 0) (oE (eVar 1)) (oE (eOp addD (eVar 1) (eRet (.int 1))))))) (pNm 3) (sSet 2 (vE (eOp modD (eCB int1D (aCons (eOp addD (eOp addD (eOp mulD (eVar 2) (eRet (.int 39019))) (eVar 3)) (eRet (.int 19))) aNil)) (eRet (.int 2147483579)))))) (sSeq (sSet 4 (vE (eIf (tOfE (eOp ltD (eVar 1) (eCB lenD (aCons (eVar 0) aNil)))) (eOpS ixS (eVar 0) (eVar 1)) (eRet (.int 0))))) (sRet (eNew (fLst (aCons (eVar 2) (aCons (eRet (.int 0)) (aCons (eIf (tOfE (eOp geD (eCB absD (aCons (eVar 4) aNil)) (eOp powD (eRet (.int 10)) (eRet (.int 18))))) (eCB absD (aCons (eVar 4) aNil)) (eRet (.int 0))) aNil)))))))))
def f__law_well : List D → Sto → Out D := runM 5 m__law_well
abbrev N_law : List Str := ["script", "spot"]
def m_law : SM := (sRet (eCL allL (lF (fLc (aRng rngD1 (aCons (eRet (.int 2)) aNil)) (pNm 1) tYs (eCall 1 f__law_right (aCons (eCall 2 f__law_well (aCons (eVar 0) (aCons (eVar 1) aNil))) aNil)) [1]))))
def f_law : List D → Sto → Out D := runM 2 m_law
/-! ### what is known of the heap -/
structure Tb (K : PySem.W.Frag) (mg : Str → Option Value) where
  f__law_draw : FT K mg "_law_draw" s__law_draw
  f__law_merged : FT K mg "_law_merged" s__law_merged
  f__law_pick : FT K mg "_law_pick" s__law_pick
  f__law_bent_lots : FT K mg "_law_bent_lots" s__law_bent_lots
  f__law_opposite : FT K mg "_law_opposite" s__law_opposite
  f__law_places : FT K mg "_law_places" s__law_places
  f__law_read : FT K mg "_law_read" s__law_read
  f__law_great : FT K mg "_law_great" s__law_great
  f__law_size : FT K mg "_law_size" s__law_size
  f__law_halves : FT K mg "_law_halves" s__law_halves
  f__law_most : FT K mg "_law_most" s__law_most
  f__law_rest : FT K mg "_law_rest" s__law_rest
  f__law_any_piece : FT K mg "_law_any_piece" s__law_any_piece
  f__law_ends : FT K mg "_law_ends" s__law_ends
  f__law_are_halves : FT K mg "_law_are_halves" s__law_are_halves
  f__law_is_rest : FT K mg "_law_is_rest" s__law_is_rest
  f__law_family : FT K mg "_law_family" s__law_family
  f_places_of : FT K mg "places_of" s_places_of
  f_turned_about : FT K mg "turned_about" s_turned_about
  f_halves_read : FT K mg "halves_read" s_halves_read
  f_ends_of : FT K mg "ends_of" s_ends_of
  f_single_besides : FT K mg "single_besides" s_single_besides
  f_is_bridge : FT K mg "is_bridge" s_is_bridge
  f_is_crown : FT K mg "is_crown" s_is_crown
  f_is_halves_of : FT K mg "is_halves_of" s_is_halves_of
  f_is_rest_of : FT K mg "is_rest_of" s_is_rest_of
  f_rest_read : FT K mg "rest_read" s_rest_read
  f_family_of : FT K mg "family_of" s_family_of
  f_is_integer : FT K mg "is_integer" s_is_integer
  f_is_count : FT K mg "is_count" s_is_count
  f_is_kind : FT K mg "is_kind" s_is_kind
  f_wrong_kind : FT K mg "wrong_kind" s_wrong_kind
  f_is_piece : FT K mg "is_piece" s_is_piece
  f_family : FT K mg "family" s_family
  f__law_right : FT K mg "_law_right" s__law_right
  f__law_well : FT K mg "_law_well" s__law_well
  f_law : FT K mg "law" s_law
  b_abs : mg "abs" = none
  b_all : mg "all" = none
  b_bool : mg "bool" = none
  b_divmod : mg "divmod" = none
  b_enumerate : mg "enumerate" = none
  b_int : mg "int" = none
  b_isinstance : mg "isinstance" = none
  b_len : mg "len" = none
  b_list : mg "list" = none
  b_max : mg "max" = none
  b_range : mg "range" = none
  b_repr : mg "repr" = none
  b_sorted : mg "sorted" = none
  b_str : mg "str" = none
  b_sum : mg "sum" = none
  b_tuple : mg "tuple" = none
  c_HALVES : CT K mg "HALVES" d_HALVES
  c_MOST_COUNT : CT K mg "MOST_COUNT" d_MOST_COUNT
  c_MOST_DEGREE : CT K mg "MOST_DEGREE" d_MOST_DEGREE
  c_MOST_KINDS : CT K mg "MOST_KINDS" d_MOST_KINDS
  c_READINGS : CT K mg "READINGS" d_READINGS
  c_RESTS : CT K mg "RESTS" d_RESTS
/-! ### each def does what is told of it -/
section
variable {P : Program} {w : World} {K : PySem.W.Frag} {mg : Str → Option Value} {base : Heap} {a : Addr} {d : FuncData}
theorem nd__law_draw : (N__law_draw).Nodup := by decide +kernel
theorem sc__law_draw : FnScope N__law_draw ["well", "many"] (defScope s__law_draw) := ⟨rfl, rfl, rfl, nd__law_draw, rfl, by decide +kernel, by decide +kernel⟩
theorem bn__law_draw (F : FnP K "_law_draw" "_law_draw" s__law_draw a d) : Binds K d ["well", "many"] [] := FunD.bindsN F fun _ _ _ _ _ _ us hl => match us, hl with | [_, _], _ => rfl
theorem ok__law_draw (T : Tb K mg) : FnG P w K mg base 1 T.f__law_draw.a T.f__law_draw.d ["well", "many"] (spM K 2 f__law_draw) := okG T.f__law_draw.F sc__law_draw rfl fun cdv A outer s H E hr hg =>
  (jb_cons (js_if (tGt' (sIx (nm (i := 0)) cI) cI) (jb_cons (js_pat2 (fDivmod T.b_divmod (sIx (nm (i := 0)) cI) (nm (i := 1))) (pg_tup rfl (pgs_cons (pg_sub (pe_var (i := 0) rfl (by first | exact Or.inl rfl | exact Or.inr (Or.inl rfl) | exact Or.inr (Or.inr rfl))) (JE.pe (E := E00) cI) set_list) (pgs_cons (gN nd__law_draw (i := 2)) pgs_nil))) (p2_tp (p2s_cons p2_sub (p2s_cons (p2_o (pok_nm (i := 2))) p2s_nil)))) (jb_one (js_ret (nm (i := 2))))) jb_nil) (jb_cons (js_pat2 (bAdd (sIx (nm (i := 0)) cI) cI) (pg_sub (pe_var (i := 0) rfl (by first | exact Or.inl rfl | exact Or.inr (Or.inl rfl) | exact Or.inr (Or.inr rfl))) (JE.pe (E := E00) cI) set_list) p2_sub) (jb_cons (js_set nd__law_draw (i := 3) rfl (by first | exact Or.inl rfl | exact Or.inr rfl) (jv_e (fInt T.b_int (sIx (nm (i := 0)) cI)))) (jb_cons (js_pat2 (bMod (fInt T.b_int (bAdd (bAdd (bMul (nm (i := 3)) cI) (bMul (sIx (nm (i := 0)) cI) cI)) cI)) cI) (pg_sub (pe_var (i := 0) rfl (by first | exact Or.inl rfl | exact Or.inr (Or.inl rfl) | exact Or.inr (Or.inr rfl))) (JE.pe (E := E00) cI) set_list) p2_sub) (jb_one (js_ret (bMod (fInt T.b_int (bDiv (sIx (nm (i := 0)) cI) cI)) (nm (i := 1)))))))))
theorem nd__law_merged : (N__law_merged).Nodup := by decide +kernel
theorem sc__law_merged : FnScope N__law_merged ["lots"] (defScope s__law_merged) := ⟨rfl, rfl, rfl, nd__law_merged, rfl, by decide +kernel, by decide +kernel⟩
theorem bn__law_merged (F : FnP K "_law_merged" "_law_merged" s__law_merged a d) : Binds K d ["lots"] [] := FunD.bindsN F fun _ _ _ _ _ _ us hl => match us, hl with | [_], _ => rfl
theorem ok__law_merged (T : Tb K mg) : FnG P w K mg base 1 T.f__law_merged.a T.f__law_merged.d ["lots"] (spM K 1 f__law_merged) := okG T.f__law_merged.F sc__law_merged rfl fun cdv A outer s H E hr hg =>
  (jb_cons (js_set nd__law_merged (i := 1) rfl (by first | exact Or.inl rfl | exact Or.inr rfl) jv_dnew) (jb_cons (js_for ownB rfl (ji_e (nm (i := 0))) (pg_tupA rfl (pgs_cons (gN nd__law_merged (i := 2)) (pgs_cons (gN nd__law_merged (i := 3)) pgs_nil))) (pok_tpA (poks_cons (pok_nm (i := 2)) (poks_cons (pok_nm (i := 3)) poks_nil))) (jb_one (js_dput (ru1 hr) (pe_var (i := 1) rfl (by first | exact Or.inl rfl | exact Or.inr (Or.inl rfl) | exact Or.inr (Or.inr rfl))) (nm (i := 2)) (bAdd (je_dget2 (ru1 hr) (nd (i := 1)) (nm (i := 2)) cI ⟨rfl, rfl, rfl, rfl⟩) (nm (i := 3)))))) (jb_one (js_ret (fTuple T.b_tuple (xe_f (jf_lc (own := [("degree", 2)]) rfl nd__law_merged (jc_l (xl_f (fSortedD rfl T.b_sorted (nd (i := 1))))) (blkOk_by (own := [("degree", 2)]) (N := N__law_merged) (sc := defScope s__law_merged) (by decide +kernel)) (pok_nm (i := 2)) (fun _ _ _ _ _ => (gN nd__law_merged (i := 2))) (fun _ _ _ _ _ => jts_one (tGt' (je_dget (ru1 hr) (nd (i := 1)) (nm (i := 2)) (fun _ _ => rfl)) cI)) (fun _ _ _ _ _ => (xe_tup (xa_cons (nm (i := 2)) (xa_cons (je_dget (ru1 hr) (nd (i := 1)) (nm (i := 2)) (fun _ _ => rfl)) xa_nil)))) (by decide))))))))
theorem nd__law_pick : (N__law_pick).Nodup := by decide +kernel
theorem sc__law_pick : FnScope N__law_pick ["well", "choices"] (defScope s__law_pick) := ⟨rfl, rfl, rfl, nd__law_pick, rfl, by decide +kernel, by decide +kernel⟩
theorem bn__law_pick (F : FnP K "_law_pick" "_law_pick" s__law_pick a d) : Binds K d ["well", "choices"] [] := FunD.bindsN F fun _ _ _ _ _ _ us hl => match us, hl with | [_, _], _ => rfl
theorem ok__law_pick (T : Tb K mg) : FnG P w K mg base 2 T.f__law_pick.a T.f__law_pick.d ["well", "choices"] (spM K 2 f__law_pick) := okG T.f__law_pick.F sc__law_pick rfl fun cdv A outer s H E hr hg =>
  (jb_one (js_ret (sIx (nm (i := 1)) (je_callG (ok__law_draw T) (hr.mono (by decide)) hg rfl T.f__law_draw.g T.f__law_draw.F.kp (bn__law_draw T.f__law_draw.F) passB (xa_cons (nm (i := 0)) (xa_cons (fLen T.b_len (nm (i := 1))) xa_nil))))))
theorem nd__law_bent_lots : (N__law_bent_lots).Nodup := by decide +kernel
theorem sc__law_bent_lots : FnScope N__law_bent_lots ["well", "lots"] (defScope s__law_bent_lots) := ⟨rfl, rfl, rfl, nd__law_bent_lots, rfl, by decide +kernel, by decide +kernel⟩
theorem bn__law_bent_lots (F : FnP K "_law_bent_lots" "_law_bent_lots" s__law_bent_lots a d) : Binds K d ["well", "lots"] [] := FunD.bindsN F fun _ _ _ _ _ _ us hl => match us, hl with | [_, _], _ => rfl
theorem ok__law_bent_lots (T : Tb K mg) : FnG P w K mg base 3 T.f__law_bent_lots.a T.f__law_bent_lots.d ["well", "lots"] (spM K 2 f__law_bent_lots) := okG T.f__law_bent_lots.F sc__law_bent_lots rfl fun cdv A outer s H E hr hg =>
  (jb_cons (js_set nd__law_bent_lots (i := 2) rfl (by first | exact Or.inl rfl | exact Or.inr rfl) (jv_e (je_callG (ok__law_draw T) (hr.mono (by decide)) hg rfl T.f__law_draw.g T.f__law_draw.F.kp (bn__law_draw T.f__law_draw.F) passB (xa_cons (nm (i := 0)) (xa_cons (fLen T.b_len (nm (i := 1))) xa_nil))))) (jb_cons (js_pat (sIx (nm (i := 1)) (nm (i := 2))) (pg_tupA rfl (pgs_cons (gN nd__law_bent_lots (i := 3)) (pgs_cons (gN nd__law_bent_lots (i := 4)) pgs_nil))) (pok_tpA (poks_cons (pok_nm (i := 3)) (poks_cons (pok_nm (i := 4)) poks_nil)))) (jb_cons (js_set nd__law_bent_lots (i := 5) rfl (by first | exact Or.inl rfl | exact Or.inr rfl) (jv_e (je_callG (ok__law_pick T) (hr.mono (by decide)) hg rfl T.f__law_pick.g T.f__law_pick.F.kp (bn__law_pick T.f__law_pick.F) passB (xa_cons (nm (i := 0)) (xa_cons (xe_f (xf_lst (xa_cons (xe_tup (xa_cons (nm (i := 3)) (xa_cons (bAdd (nm (i := 4)) cI) xa_nil))) (xa_cons (xe_tup (xa_cons (nm (i := 3)) (xa_cons (fMax2 rfl T.b_max cI (bSub (nm (i := 4)) cI)) xa_nil))) (xa_cons (xe_tup (xa_cons (bAdd (nm (i := 3)) cI) (xa_cons (nm (i := 4)) xa_nil))) (xa_cons (xe_tup (xa_cons (fMax2 rfl T.b_max cI (bSub (nm (i := 3)) cI)) (xa_cons (nm (i := 4)) xa_nil))) xa_nil)))))) xa_nil))))) (jb_one (js_ret (je_callG (ok__law_merged T) (hr.mono (by decide)) hg rfl T.f__law_merged.g T.f__law_merged.F.kp (bn__law_merged T.f__law_merged.F) passB (xa_cons (bAdd (bAdd (fList T.b_list (xl_e (je_sl (nm (i := 1)) jo_no (jo_e (nm (i := 2)))))) (xe_f (xf_lst (xa_cons (nm (i := 5)) xa_nil)))) (fList T.b_list (xl_e (je_sl (nm (i := 1)) (jo_e (bAdd (nm (i := 2)) cI)) jo_no)))) xa_nil)))))))
theorem nd__law_opposite : (N__law_opposite).Nodup := by decide +kernel
theorem sc__law_opposite : FnScope N__law_opposite ["lots", "top"] (defScope s__law_opposite) := ⟨rfl, rfl, rfl, nd__law_opposite, rfl, by decide +kernel, by decide +kernel⟩
theorem bn__law_opposite (F : FnP K "_law_opposite" "_law_opposite" s__law_opposite a d) : Binds K d ["lots", "top"] [] := FunD.bindsN F fun _ _ _ _ _ _ us hl => match us, hl with | [_, _], _ => rfl
theorem ok__law_opposite (T : Tb K mg) : FnG P w K mg base 1 T.f__law_opposite.a T.f__law_opposite.d ["lots", "top"] (spM K 2 f__law_opposite) := okG T.f__law_opposite.F sc__law_opposite rfl fun cdv A outer s H E hr hg =>
  (jb_one (js_ret (fTuple T.b_tuple (xe_f (jf_lc (own := [("degree", 2), ("many", 3)]) rfl nd__law_opposite (jc_i (ji_e (je_rev (nm (i := 0))))) (blkOk_by (own := [("degree", 2), ("many", 3)]) (N := N__law_opposite) (sc := defScope s__law_opposite) (by decide +kernel)) (pok_tpA (poks_cons (pok_nm (i := 2)) (poks_cons (pok_nm (i := 3)) poks_nil))) (fun _ _ _ _ _ => (pg_tupA rfl (pgs_cons (gN nd__law_opposite (i := 2)) (pgs_cons (gN nd__law_opposite (i := 3)) pgs_nil)))) (fun _ _ _ _ _ => jts_nil) (fun _ _ _ _ _ => (xe_tup (xa_cons (bSub (nm (i := 1)) (nm (i := 2))) (xa_cons (nm (i := 3)) xa_nil)))) (by decide))))))
theorem nd__law_places : (N__law_places).Nodup := by decide +kernel
theorem sc__law_places : FnScope N__law_places ["lots"] (defScope s__law_places) := ⟨rfl, rfl, rfl, nd__law_places, rfl, by decide +kernel, by decide +kernel⟩
theorem bn__law_places (F : FnP K "_law_places" "_law_places" s__law_places a d) : Binds K d ["lots"] [] := FunD.bindsN F fun _ _ _ _ _ _ us hl => match us, hl with | [_], _ => rfl
theorem ok__law_places (T : Tb K mg) : FnG P w K mg base 1 T.f__law_places.a T.f__law_places.d ["lots"] (spM K 1 f__law_places) := okG T.f__law_places.F sc__law_places rfl fun cdv A outer s H E hr hg =>
  (jb_one (js_ret (fSum rfl T.b_sum (xl_f (jf_lc (own := [("degree", 1), ("many", 2)]) rfl nd__law_places (jc_i (ji_e (nm (i := 0)))) (blkOk_by (own := [("degree", 1), ("many", 2)]) (N := N__law_places) (sc := defScope s__law_places) (by decide +kernel)) (pok_tpA (poks_cons (pok_nm (i := 1)) (poks_cons (pok_nm (i := 2)) poks_nil))) (fun _ _ _ _ _ => (pg_tupA rfl (pgs_cons (gN nd__law_places (i := 1)) (pgs_cons (gN nd__law_places (i := 2)) pgs_nil)))) (fun _ _ _ _ _ => jts_nil) (fun _ _ _ _ _ => (nm (i := 2))) (by decide))))))
theorem nd__law_read : (N__law_read).Nodup := by decide +kernel
theorem sc__law_read : FnScope N__law_read ["sides_here", "way"] (defScope s__law_read) := ⟨rfl, rfl, rfl, nd__law_read, rfl, by decide +kernel, by decide +kernel⟩
theorem bn__law_read (F : FnP K "_law_read" "_law_read" s__law_read a d) : Binds K d ["sides_here", "way"] [] := FunD.bindsN F fun _ _ _ _ _ _ us hl => match us, hl with | [_, _], _ => rfl
theorem ok__law_read (T : Tb K mg) : FnG P w K mg base 2 T.f__law_read.a T.f__law_read.d ["sides_here", "way"] (spM K 2 f__law_read) := okG T.f__law_read.F sc__law_read rfl fun cdv A outer s H E hr hg =>
  (jb_cons (js_pat (nm (i := 0)) (pg_tupA rfl (pgs_cons (gN nd__law_read (i := 2)) (pgs_cons (gN nd__law_read (i := 3)) pgs_nil))) (pok_tpA (poks_cons (pok_nm (i := 2)) (poks_cons (pok_nm (i := 3)) poks_nil)))) (jb_cons (js_if (tGt' (nm (i := 1)) cI) (jb_cons (par2 (i := 4) (j := 5) rfl nd__law_read rfl rfl (by decide) rfl rfl (jvs_cons (jv_e (je_callG (ok__law_places T) (hr.mono (by decide)) hg rfl T.f__law_places.g T.f__law_places.F.kp (bn__law_places T.f__law_places.F) passB (xa_cons (nm (i := 2)) xa_nil))) (jvs_cons (jv_e (je_callG (ok__law_places T) (hr.mono (by decide)) hg rfl T.f__law_places.g T.f__law_places.F.kp (bn__law_places T.f__law_places.F) passB (xa_cons (nm (i := 3)) xa_nil))) jvs_nil)) rfl) (jb_one (par2 (i := 2) (j := 3) rfl nd__law_read rfl rfl (by decide) rfl rfl (jvs_cons (jv_e (je_callG (ok__law_opposite T) (hr.mono (by decide)) hg rfl T.f__law_opposite.g T.f__law_opposite.F.kp (bn__law_opposite T.f__law_opposite.F) passB (xa_cons (nm (i := 2)) (xa_cons (nm (i := 5)) xa_nil)))) (jvs_cons (jv_e (je_callG (ok__law_opposite T) (hr.mono (by decide)) hg rfl T.f__law_opposite.g T.f__law_opposite.F.kp (bn__law_opposite T.f__law_opposite.F) passB (xa_cons (nm (i := 3)) (xa_cons (nm (i := 4)) xa_nil)))) jvs_nil)) rfl))) jb_nil) (jb_one (js_ret (je_if (tIn hr (nm (i := 1)) (xl_f (xf_lst (xa_cons cI (xa_cons cI xa_nil))))) (xe_tup (xa_cons (nm (i := 2)) (xa_cons (nm (i := 3)) xa_nil))) (xe_tup (xa_cons (nm (i := 3)) (xa_cons (nm (i := 2)) xa_nil))))))))
theorem nd__law_great : (N__law_great).Nodup := by decide +kernel
theorem sc__law_great : FnScope N__law_great ["well"] (defScope s__law_great) := ⟨rfl, rfl, rfl, nd__law_great, rfl, by decide +kernel, by decide +kernel⟩
theorem bn__law_great (F : FnP K "_law_great" "_law_great" s__law_great a d) : Binds K d ["well"] [] := FunD.bindsN F fun _ _ _ _ _ _ us hl => match us, hl with | [_], _ => rfl
theorem ok__law_great (T : Tb K mg) : FnG P w K mg base 2 T.f__law_great.a T.f__law_great.d ["well"] (spM K 1 f__law_great) := okG T.f__law_great.F sc__law_great rfl fun cdv A outer s H E hr hg =>
  (jb_cons (js_set nd__law_great (i := 1) rfl (by first | exact Or.inl rfl | exact Or.inr rfl) (jv_e cI)) (jb_cons (js_for ownB rfl (ji_rng1 rfl T.b_range (xa_cons (bAdd cI (je_callG (ok__law_draw T) (hr.mono (by decide)) hg rfl T.f__law_draw.g T.f__law_draw.F.kp (bn__law_draw T.f__law_draw.F) passB (xa_cons (nm (i := 0)) (xa_cons cI xa_nil)))) xa_nil)) (gN nd__law_great (i := 2)) (pok_nm (i := 2)) (jb_one (js_set nd__law_great (i := 1) rfl (by first | exact Or.inl rfl | exact Or.inr rfl) (jv_e (bAdd (bMul cI (nm (i := 1))) (je_callG (ok__law_draw T) (hr.mono (by decide)) hg rfl T.f__law_draw.g T.f__law_draw.F.kp (bn__law_draw T.f__law_draw.F) passB (xa_cons (nm (i := 0)) (xa_cons cI xa_nil)))))))) (jb_one (js_ret (nm (i := 1))))))
theorem nd__law_size : (N__law_size).Nodup := by decide +kernel
theorem sc__law_size : FnScope N__law_size ["well"] (defScope s__law_size) := ⟨rfl, rfl, rfl, nd__law_size, rfl, by decide +kernel, by decide +kernel⟩
theorem bn__law_size (F : FnP K "_law_size" "_law_size" s__law_size a d) : Binds K d ["well"] [] := FunD.bindsN F fun _ _ _ _ _ _ us hl => match us, hl with | [_], _ => rfl
theorem ok__law_size (T : Tb K mg) : FnG P w K mg base 3 T.f__law_size.a T.f__law_size.d ["well"] (spM K 1 f__law_size) := okG T.f__law_size.F sc__law_size rfl fun cdv A outer s H E hr hg =>
  (jb_one (js_ret (je_callG (ok__law_pick T) (hr.mono (by decide)) hg rfl T.f__law_pick.g T.f__law_pick.F.kp (bn__law_pick T.f__law_pick.F) passB (xa_cons (nm (i := 0)) (xa_cons (xe_f (xf_lst (xa_cons cI (xa_cons cI (xa_cons cI (xa_cons (je_callG (ok__law_draw T) (hr.mono (by decide)) hg rfl T.f__law_draw.g T.f__law_draw.F.kp (bn__law_draw T.f__law_draw.F) passB (xa_cons (nm (i := 0)) (xa_cons cI xa_nil))) (xa_cons (je_callG (ok__law_great T) (hr.mono (by decide)) hg rfl T.f__law_great.g T.f__law_great.F.kp (bn__law_great T.f__law_great.F) passB (xa_cons (nm (i := 0)) xa_nil)) xa_nil))))))) xa_nil)))))
theorem nd__law_halves : (N__law_halves).Nodup := by decide +kernel
theorem sc__law_halves : FnScope N__law_halves ["well"] (defScope s__law_halves) := ⟨rfl, rfl, rfl, nd__law_halves, rfl, by decide +kernel, by decide +kernel⟩
theorem bn__law_halves (F : FnP K "_law_halves" "_law_halves" s__law_halves a d) : Binds K d ["well"] [] := FunD.bindsN F fun _ _ _ _ _ _ us hl => match us, hl with | [_], _ => rfl
theorem ok__law_halves (T : Tb K mg) : FnG P w K mg base 4 T.f__law_halves.a T.f__law_halves.d ["well"] (spM K 1 f__law_halves) := okG T.f__law_halves.F sc__law_halves rfl fun cdv A outer s H E hr hg =>
  (jb_cons (par2 (i := 1) (j := 2) rfl nd__law_halves rfl rfl (by decide) rfl rfl (jvs_cons (jv_e (bAdd cI (je_callG (ok__law_size T) (hr.mono (by decide)) hg rfl T.f__law_size.g T.f__law_size.F.kp (bn__law_size T.f__law_size.F) passB (xa_cons (nm (i := 0)) xa_nil)))) (jvs_cons (jv_e (bAdd cI (je_callG (ok__law_size T) (hr.mono (by decide)) hg rfl T.f__law_size.g T.f__law_size.F.kp (bn__law_size T.f__law_size.F) passB (xa_cons (nm (i := 0)) xa_nil)))) jvs_nil)) rfl) (jb_cons (par2 (i := 3) (j := 4) rfl nd__law_halves rfl rfl (by decide) rfl rfl (jvs_cons (jv_e (bAdd cI (je_callG (ok__law_size T) (hr.mono (by decide)) hg rfl T.f__law_size.g T.f__law_size.F.kp (bn__law_size T.f__law_size.F) passB (xa_cons (nm (i := 0)) xa_nil)))) (jvs_cons (jv_e (je_callG (ok__law_draw T) (hr.mono (by decide)) hg rfl T.f__law_draw.g T.f__law_draw.F.kp (bn__law_draw T.f__law_draw.F) passB (xa_cons (nm (i := 0)) (xa_cons cI xa_nil)))) jvs_nil)) rfl) (jb_cons (js_set nd__law_halves (i := 5) rfl (by first | exact Or.inl rfl | exact Or.inr rfl) (jv_e (xe_tup (xa_cons (xe_tup (xa_cons (xe_tup (xa_cons (nm (i := 1)) (xa_cons (nm (i := 2)) xa_nil))) xa_nil)) (xa_cons (xe_tup (xa_cons (xe_tup (xa_cons cI (xa_cons (bMul (nm (i := 1)) (nm (i := 2))) xa_nil))) xa_nil)) xa_nil))))) (jb_cons (js_if (tEq hr (nm (i := 4)) cI) (jb_one (js_set nd__law_halves (i := 5) rfl (by first | exact Or.inl rfl | exact Or.inr rfl) (jv_e (xe_tup (xa_cons (xe_tup (xa_cons (xe_tup (xa_cons (bAdd (nm (i := 1)) (nm (i := 3))) (xa_cons (nm (i := 2)) xa_nil))) (xa_cons (xe_tup (xa_cons (nm (i := 1)) (xa_cons (nm (i := 3)) xa_nil))) xa_nil))) (xa_cons (xe_tup (xa_cons (xe_tup (xa_cons cI (xa_cons (bAdd (bMul (bAdd (nm (i := 1)) (nm (i := 3))) (nm (i := 2))) (bMul (nm (i := 1)) (nm (i := 3)))) xa_nil))) xa_nil)) xa_nil)))))) jb_nil) (jb_cons (js_if (tEq hr (nm (i := 4)) cI) (jb_one (js_set nd__law_halves (i := 5) rfl (by first | exact Or.inl rfl | exact Or.inr rfl) (jv_e (xe_tup (xa_cons (xe_tup (xa_cons (xe_tup (xa_cons (bAdd (nm (i := 1)) cI) (xa_cons (bAdd (nm (i := 2)) (nm (i := 3))) xa_nil))) xa_nil)) (xa_cons (xe_tup (xa_cons (xe_tup (xa_cons (nm (i := 2)) (xa_cons cI xa_nil))) (xa_cons (xe_tup (xa_cons cI (xa_cons (bAdd (bMul (nm (i := 1)) (nm (i := 2))) (bMul (bAdd (nm (i := 1)) cI) (nm (i := 3)))) xa_nil))) xa_nil))) xa_nil)))))) jb_nil) (jb_cons (js_if (tEq hr (nm (i := 4)) cI) (jb_cons (js_set nd__law_halves (i := 6) rfl (by first | exact Or.inl rfl | exact Or.inr rfl) (jv_e (bAdd (bAdd (bMul cI (nm (i := 1))) (bMul (nm (i := 3)) (bAdd (nm (i := 1)) cI))) cI))) (jb_one (js_set nd__law_halves (i := 5) rfl (by first | exact Or.inl rfl | exact Or.inr rfl) (jv_e (xe_tup (xa_cons (xe_tup (xa_cons (xe_tup (xa_cons (bSub (nm (i := 6)) cI) (xa_cons cI xa_nil))) (xa_cons (xe_tup (xa_cons (bAdd (nm (i := 1)) cI) (xa_cons (bAdd (nm (i := 3)) cI) xa_nil))) xa_nil))) (xa_cons (xe_tup (xa_cons (xe_tup (xa_cons cI (xa_cons (nm (i := 6)) xa_nil))) xa_nil)) xa_nil))))))) jb_nil) (jb_cons (js_if (tEq hr (nm (i := 4)) cI) (jb_one (js_set nd__law_halves (i := 5) rfl (by first | exact Or.inl rfl | exact Or.inr rfl) (jv_e (xe_tup (xa_cons (xe_tup (xa_cons (xe_tup (xa_cons cI (xa_cons (bAdd cI (nm (i := 3))) xa_nil))) xa_nil)) (xa_cons (xe_tup (xa_cons (xe_tup (xa_cons cI (xa_cons (bAdd cI (nm (i := 3))) xa_nil))) xa_nil)) xa_nil)))))) jb_nil) (jb_cons (js_pat (je_callG (ok__law_read T) (hr.mono (by decide)) hg rfl T.f__law_read.g T.f__law_read.F.kp (bn__law_read T.f__law_read.F) passB (xa_cons (nm (i := 5)) (xa_cons (je_callG (ok__law_draw T) (hr.mono (by decide)) hg rfl T.f__law_draw.g T.f__law_draw.F.kp (bn__law_draw T.f__law_draw.F) passB (xa_cons (nm (i := 0)) (xa_cons cI xa_nil))) xa_nil))) (pg_tupA rfl (pgs_cons (gN nd__law_halves (i := 7)) (pgs_cons (gN nd__law_halves (i := 8)) pgs_nil))) (pok_tpA (poks_cons (pok_nm (i := 7)) (poks_cons (pok_nm (i := 8)) poks_nil)))) (jb_one (js_ret (xe_tup (xa_cons (xe_tup (xa_cons cS (xa_cons (nm (i := 7)) (xa_cons (nm (i := 8)) xa_nil)))) (xa_cons (eLt (nm (i := 4)) cI) xa_nil)))))))))))))
theorem nd__law_most : (N__law_most).Nodup := by decide +kernel
theorem sc__law_most : FnScope N__law_most ["piece"] (defScope s__law_most) := ⟨rfl, rfl, rfl, nd__law_most, rfl, by decide +kernel, by decide +kernel⟩
theorem bn__law_most (F : FnP K "_law_most" "_law_most" s__law_most a d) : Binds K d ["piece"] [] := FunD.bindsN F fun _ _ _ _ _ _ us hl => match us, hl with | [_], _ => rfl
theorem ok__law_most (T : Tb K mg) : FnG P w K mg base 1 T.f__law_most.a T.f__law_most.d ["piece"] (spM K 1 f__law_most) := okG T.f__law_most.F sc__law_most rfl fun cdv A outer s H E hr hg =>
  (jb_cons (js_if (tIn hr (sIx (nm (i := 0)) cI) (xl_f (xf_lst (xa_cons cS (xa_cons cS xa_nil))))) (jb_one (js_ret (sIx (nm (i := 0)) cI))) jb_nil) (jb_one (js_ret (fMax rfl T.b_max (xl_f (jf_lc (own := [("lots", 3)]) rfl nd__law_most (jc_i (ji_e (je_sl (nm (i := 0)) (jo_e cI) jo_no))) (blkOk_by (own := [("lots", 3)]) (N := N__law_most) (sc := defScope s__law_most) (by decide +kernel)) (pok_nm (i := 3)) (fun _ _ _ _ _ => (gN nd__law_most (i := 3))) (fun _ _ _ _ _ => jts_nil) (fun _ _ _ _ _ => (fMax rfl T.b_max (xl_f (jf_lc (own := [("degree", 1), ("many", 2)]) rfl nd__law_most (jc_i (ji_e (nm (i := 3)))) (blkOk_by (own := [("degree", 1), ("many", 2)]) (by kernel_rfl)) (pok_tpA (poks_cons (pok_nm (i := 1)) (poks_cons (pok_nm (i := 2)) poks_nil))) (fun _ _ _ _ _ => (pg_tupA rfl (pgs_cons (gN nd__law_most (i := 1)) (pgs_cons (gN nd__law_most (i := 2)) pgs_nil)))) (fun _ _ _ _ _ => jts_nil) (fun _ _ _ _ _ => (nm (i := 2))) (by decide))))) (by decide)))))))
theorem nd__law_rest : (N__law_rest).Nodup := by decide +kernel
theorem sc__law_rest : FnScope N__law_rest ["well"] (defScope s__law_rest) := ⟨rfl, rfl, rfl, nd__law_rest, rfl, by decide +kernel, by decide +kernel⟩
theorem bn__law_rest (F : FnP K "_law_rest" "_law_rest" s__law_rest a d) : Binds K d ["well"] [] := FunD.bindsN F fun _ _ _ _ _ _ us hl => match us, hl with | [_], _ => rfl
theorem ok__law_rest (T : Tb K mg) : FnG P w K mg base 4 T.f__law_rest.a T.f__law_rest.d ["well"] (spM K 1 f__law_rest) := okG T.f__law_rest.F sc__law_rest rfl fun cdv A outer s H E hr hg =>
  (jb_cons (par2 (i := 1) (j := 2) rfl nd__law_rest rfl rfl (by decide) rfl rfl (jvs_cons (jv_e (bAdd cI (je_callG (ok__law_size T) (hr.mono (by decide)) hg rfl T.f__law_size.g T.f__law_size.F.kp (bn__law_size T.f__law_size.F) passB (xa_cons (nm (i := 0)) xa_nil)))) (jvs_cons (jv_e (bAdd cI (je_callG (ok__law_size T) (hr.mono (by decide)) hg rfl T.f__law_size.g T.f__law_size.F.kp (bn__law_size T.f__law_size.F) passB (xa_cons (nm (i := 0)) xa_nil)))) jvs_nil)) rfl) (jb_cons (js_set nd__law_rest (i := 3) rfl (by first | exact Or.inl rfl | exact Or.inr rfl) (jv_e (je_callG (ok__law_draw T) (hr.mono (by decide)) hg rfl T.f__law_draw.g T.f__law_draw.F.kp (bn__law_draw T.f__law_draw.F) passB (xa_cons (nm (i := 0)) (xa_cons cI xa_nil))))) (jb_cons (js_set nd__law_rest (i := 4) rfl (by first | exact Or.inl rfl | exact Or.inr rfl) (jv_e (xe_f (xf_lst (xa_cons (xe_tup (xa_cons (xe_tup (xa_cons cI (xa_cons cI xa_nil))) xa_nil)) (xa_cons (xe_tup (xa_cons (xe_tup (xa_cons cI (xa_cons (bAdd (bMul cI (nm (i := 1))) cI) xa_nil))) xa_nil)) (xa_cons (xe_tup (xa_cons (xe_tup (xa_cons (nm (i := 2)) (xa_cons cI xa_nil))) (xa_cons (xe_tup (xa_cons cI (xa_cons (bAdd (nm (i := 2)) (bMul cI (nm (i := 1)))) xa_nil))) xa_nil))) (xa_cons (xe_tup (xa_cons (xe_tup (xa_cons (bAdd (bMul cI (nm (i := 1))) cI) (xa_cons cI xa_nil))) (xa_cons (xe_tup (xa_cons cI (xa_cons (bAdd (bMul cI (nm (i := 1))) cI) xa_nil))) xa_nil))) xa_nil)))))))) (jb_cons (js_set nd__law_rest (i := 4) rfl (by first | exact Or.inl rfl | exact Or.inr rfl) (jv_e (bAdd (nm (i := 4)) (xe_f (xf_lst (xa_cons (xe_tup (xa_cons (xe_tup (xa_cons cI (xa_cons (bAdd cI (nm (i := 1))) xa_nil))) xa_nil)) (xa_cons (xe_tup (xa_cons (xe_tup (xa_cons cI (xa_cons (bAdd (bMul cI (nm (i := 1))) cI) xa_nil))) xa_nil)) xa_nil))))))) (jb_cons (js_set nd__law_rest (i := 5) rfl (by first | exact Or.inl rfl | exact Or.inr rfl) (jv_e (sIx (nm (i := 4)) (nm (i := 3))))) (jb_cons (js_if (tEq hr (je_callG (ok__law_draw T) (hr.mono (by decide)) hg rfl T.f__law_draw.g T.f__law_draw.F.kp (bn__law_draw T.f__law_draw.F) passB (xa_cons (nm (i := 0)) (xa_cons cI xa_nil))) cI) (jb_one (js_set nd__law_rest (i := 5) rfl (by first | exact Or.inl rfl | exact Or.inr rfl) (jv_e (je_callG (ok__law_opposite T) (hr.mono (by decide)) hg rfl T.f__law_opposite.g T.f__law_opposite.F.kp (bn__law_opposite T.f__law_opposite.F) passB (xa_cons (nm (i := 5)) (xa_cons (bSub (je_callG (ok__law_places T) (hr.mono (by decide)) hg rfl T.f__law_places.g T.f__law_places.F.kp (bn__law_places T.f__law_places.F) passB (xa_cons (nm (i := 5)) xa_nil)) cI) xa_nil)))))) jb_nil) (jb_one (js_ret (xe_tup (xa_cons (xe_tup (xa_cons cS (xa_cons (nm (i := 5)) xa_nil))) (xa_cons (eLt (nm (i := 3)) cI) xa_nil)))))))))))
theorem nd__law_any_piece : (N__law_any_piece).Nodup := by decide +kernel
theorem sc__law_any_piece : FnScope N__law_any_piece ["well"] (defScope s__law_any_piece) := ⟨rfl, rfl, rfl, nd__law_any_piece, rfl, by decide +kernel, by decide +kernel⟩
theorem bn__law_any_piece (F : FnP K "_law_any_piece" "_law_any_piece" s__law_any_piece a d) : Binds K d ["well"] [] := FunD.bindsN F fun _ _ _ _ _ _ us hl => match us, hl with | [_], _ => rfl
theorem ok__law_any_piece (T : Tb K mg) : FnG P w K mg base 5 T.f__law_any_piece.a T.f__law_any_piece.d ["well"] (spM K 1 f__law_any_piece) := okG T.f__law_any_piece.F sc__law_any_piece rfl fun cdv A outer s H E hr hg =>
  (jb_cons (js_set nd__law_any_piece (i := 1) rfl (by first | exact Or.inl rfl | exact Or.inr rfl) (jv_e (je_callG (ok__law_draw T) (hr.mono (by decide)) hg rfl T.f__law_draw.g T.f__law_draw.F.kp (bn__law_draw T.f__law_draw.F) passB (xa_cons (nm (i := 0)) (xa_cons cI xa_nil))))) (jb_cons (js_if (tEq hr (nm (i := 1)) cI) (jb_one (js_ret (xe_tup (xa_cons (je_callG (ok__law_pick T) (hr.mono (by decide)) hg rfl T.f__law_pick.g T.f__law_pick.F.kp (bn__law_pick T.f__law_pick.F) passB (xa_cons (nm (i := 0)) (xa_cons (xe_f (xf_lst (xa_cons cS (xa_cons cS xa_nil)))) xa_nil))) (xa_cons (bAdd cI (je_callG (ok__law_size T) (hr.mono (by decide)) hg rfl T.f__law_size.g T.f__law_size.F.kp (bn__law_size T.f__law_size.F) passB (xa_cons (nm (i := 0)) xa_nil))) xa_nil))))) jb_nil) (jb_cons (js_set nd__law_any_piece (i := 2) rfl (by first | exact Or.inl rfl | exact Or.inr rfl) (jv_e (je_if (tLt' (nm (i := 1)) cI) (sIx (je_callG (ok__law_rest T) (hr.mono (by decide)) hg rfl T.f__law_rest.g T.f__law_rest.F.kp (bn__law_rest T.f__law_rest.F) passB (xa_cons (nm (i := 0)) xa_nil)) cI) (sIx (je_callG (ok__law_halves T) (hr.mono (by decide)) hg rfl T.f__law_halves.g T.f__law_halves.F.kp (bn__law_halves T.f__law_halves.F) passB (xa_cons (nm (i := 0)) xa_nil)) cI)))) (jb_cons (js_if (tGt' (je_callG (ok__law_most T) (hr.mono (by decide)) hg rfl T.f__law_most.g T.f__law_most.F.kp (bn__law_most T.f__law_most.F) passB (xa_cons (nm (i := 2)) xa_nil)) (bPow cI cI)) (jb_one (js_ret (xe_tup (xa_cons cS (xa_cons (xe_tup (xa_cons (xe_tup (xa_cons cI (xa_cons cI xa_nil))) xa_nil)) xa_nil))))) jb_nil) (jb_cons (js_set nd__law_any_piece (i := 3) rfl (by first | exact Or.inl rfl | exact Or.inr rfl) (jv_e (bAdd cI (je_callG (ok__law_draw T) (hr.mono (by decide)) hg rfl T.f__law_draw.g T.f__law_draw.F.kp (bn__law_draw T.f__law_draw.F) passB (xa_cons (nm (i := 0)) (xa_cons (bSub (fLen T.b_len (nm (i := 2))) cI) xa_nil)))))) (jb_cons (js_if (tEq hr (je_callG (ok__law_draw T) (hr.mono (by decide)) hg rfl T.f__law_draw.g T.f__law_draw.F.kp (bn__law_draw T.f__law_draw.F) passB (xa_cons (nm (i := 0)) (xa_cons cI xa_nil))) cI) (jb_one (js_ret (bAdd (bAdd (je_sl (nm (i := 2)) jo_no (jo_e (nm (i := 3)))) (xe_tup (xa_cons (je_callG (ok__law_bent_lots T) (hr.mono (by decide)) hg rfl T.f__law_bent_lots.g T.f__law_bent_lots.F.kp (bn__law_bent_lots T.f__law_bent_lots.F) passB (xa_cons (nm (i := 0)) (xa_cons (sIx (nm (i := 2)) (nm (i := 3))) xa_nil))) xa_nil))) (je_sl (nm (i := 2)) (jo_e (bAdd (nm (i := 3)) cI)) jo_no)))) jb_nil) (jb_one (js_ret (nm (i := 2))))))))))
theorem nd__law_ends : (N__law_ends).Nodup := by decide +kernel
theorem sc__law_ends : FnScope N__law_ends ["lots"] (defScope s__law_ends) := ⟨rfl, rfl, rfl, nd__law_ends, rfl, by decide +kernel, by decide +kernel⟩
theorem bn__law_ends (F : FnP K "_law_ends" "_law_ends" s__law_ends a d) : Binds K d ["lots"] [] := FunD.bindsN F fun _ _ _ _ _ _ us hl => match us, hl with | [_], _ => rfl
theorem ok__law_ends (T : Tb K mg) : FnG P w K mg base 1 T.f__law_ends.a T.f__law_ends.d ["lots"] (spM K 1 f__law_ends) := okG T.f__law_ends.F sc__law_ends rfl fun cdv A outer s H E hr hg =>
  (jb_one (js_ret (fSum rfl T.b_sum (xl_f (jf_lc (own := [("degree", 1), ("many", 2)]) rfl nd__law_ends (jc_i (ji_e (nm (i := 0)))) (blkOk_by (own := [("degree", 1), ("many", 2)]) (N := N__law_ends) (sc := defScope s__law_ends) (by decide +kernel)) (pok_tpA (poks_cons (pok_nm (i := 1)) (poks_cons (pok_nm (i := 2)) poks_nil))) (fun _ _ _ _ _ => (pg_tupA rfl (pgs_cons (gN nd__law_ends (i := 1)) (pgs_cons (gN nd__law_ends (i := 2)) pgs_nil)))) (fun _ _ _ _ _ => jts_nil) (fun _ _ _ _ _ => (bMul (nm (i := 1)) (nm (i := 2)))) (by decide))))))
theorem nd__law_are_halves : (N__law_are_halves).Nodup := by decide +kernel
theorem sc__law_are_halves : FnScope N__law_are_halves ["word", "inner", "outer"] (defScope s__law_are_halves) := ⟨rfl, rfl, rfl, nd__law_are_halves, rfl, by decide +kernel, by decide +kernel⟩
theorem bn__law_are_halves (F : FnP K "_law_are_halves" "_law_are_halves" s__law_are_halves a d) : Binds K d ["word", "inner", "outer"] [] := FunD.bindsN F fun _ _ _ _ _ _ us hl => match us, hl with | [_, _, _], _ => rfl
theorem ok__law_are_halves (T : Tb K mg) : FnG P w K mg base 2 T.f__law_are_halves.a T.f__law_are_halves.d ["word", "inner", "outer"] (spM K 3 f__law_are_halves) := okG T.f__law_are_halves.F sc__law_are_halves rfl fun cdv A outer s H E hr hg =>
  (jb_cons (par2 (i := 3) (j := 4) rfl nd__law_are_halves rfl rfl (by decide) rfl rfl (jvs_cons (jv_e (je_callG (ok__law_places T) (hr.mono (by decide)) hg rfl T.f__law_places.g T.f__law_places.F.kp (bn__law_places T.f__law_places.F) passB (xa_cons (nm (i := 1)) xa_nil))) (jvs_cons (jv_e (je_callG (ok__law_places T) (hr.mono (by decide)) hg rfl T.f__law_places.g T.f__law_places.F.kp (bn__law_places T.f__law_places.F) passB (xa_cons (nm (i := 2)) xa_nil))) jvs_nil)) rfl) (jb_cons (js_if (tNe hr (je_callG (ok__law_ends T) (hr.mono (by decide)) hg rfl T.f__law_ends.g T.f__law_ends.F.kp (bn__law_ends T.f__law_ends.F) passB (xa_cons (nm (i := 1)) xa_nil)) (je_callG (ok__law_ends T) (hr.mono (by decide)) hg rfl T.f__law_ends.g T.f__law_ends.F.kp (bn__law_ends T.f__law_ends.F) passB (xa_cons (nm (i := 2)) xa_nil))) (jb_one (js_ret cB)) jb_nil) (jb_cons (js_if (tEq hr (nm (i := 0)) cS) (jb_one (js_ret (je_and (eEq hr (xe_f (jf_lc (own := [("degree", 5), ("many", 6)]) rfl nd__law_are_halves (jc_i (ji_e (nm (i := 2)))) (blkOk_by (own := [("degree", 5), ("many", 6)]) (N := N__law_are_halves) (sc := defScope s__law_are_halves) (by decide +kernel)) (pok_tpA (poks_cons (pok_nm (i := 5)) (poks_cons (pok_nm (i := 6)) poks_nil))) (fun _ _ _ _ _ => (pg_tupA rfl (pgs_cons (gN nd__law_are_halves (i := 5)) (pgs_cons (gN nd__law_are_halves (i := 6)) pgs_nil)))) (fun _ _ _ _ _ => jts_nil) (fun _ _ _ _ _ => (nm (i := 5))) (by decide))) (xe_f (xf_lst (xa_cons cI xa_nil)))) (je_and (eGt (sIx (sIx (nm (i := 1)) (uNeg cI)) cI) cI) (je_one (eGt (nm (i := 3)) cI)))))) jb_nil) (jb_cons (js_if (tEq hr (nm (i := 0)) cS) (jb_cons (lcE (own := [("kind", 7)]) rfl nd__law_are_halves (jc_i (ji_e (nm (i := 2)))) (blkOk_by (own := [("kind", 7)]) (N := N__law_are_halves) (sc := defScope s__law_are_halves) (by decide +kernel)) (pok_nm (i := 7)) (fun _ _ _ _ _ => (gN nd__law_are_halves (i := 7))) (fun _ _ _ _ _ => jts_one (tNe hr (sIx (nm (i := 7)) cI) cI)) (fun _ _ _ _ _ => (nm (i := 7))) (by decide) (i := 8) rfl rfl (sw_true rfl rfl rfl (by decide +kernel))) (jb_cons (js_if (jw_t (jw_or (tNe hr (fLen T.b_len (nm (i := 1))) cI) (jw_or (tLt' (sIx (sIx (nm (i := 1)) cI) cI) cI) (jw_or (tNe hr (fLen T.b_len (nm (i := 8))) cI) (jw_or1 (tNe hr (sIx (sIx (nm (i := 8)) cI) cI) cI)))))) (jb_one (js_ret cB)) jb_nil) (jb_one (js_ret (eLtLt cI (sIx (sIx (nm (i := 8)) cI) cI) (nm (i := 3))))))) jb_nil) (jb_cons (js_set nd__law_are_halves (i := 9) rfl (by first | exact Or.inl rfl | exact Or.inr rfl) (jv_e (je_if (tIn hr (bSub (nm (i := 4)) cI) (xl_f (jf_lc (own := [("degree", 5), ("many", 6)]) rfl nd__law_are_halves (jc_i (ji_e (nm (i := 1)))) (blkOk_by (own := [("degree", 5), ("many", 6)]) (N := N__law_are_halves) (sc := defScope s__law_are_halves) (by decide +kernel)) (pok_tpA (poks_cons (pok_nm (i := 5)) (poks_cons (pok_nm (i := 6)) poks_nil))) (fun _ _ _ _ _ => (pg_tupA rfl (pgs_cons (gN nd__law_are_halves (i := 5)) (pgs_cons (gN nd__law_are_halves (i := 6)) pgs_nil)))) (fun _ _ _ _ _ => jts_nil) (fun _ _ _ _ _ => (nm (i := 5))) (by decide)))) (fList T.b_list (xl_e (je_callG (ok__law_merged T) (hr.mono (by decide)) hg rfl T.f__law_merged.g T.f__law_merged.F.kp (bn__law_merged T.f__law_merged.F) passB (xa_cons (bAdd (fList T.b_list (xl_e (nm (i := 1)))) (xe_f (xf_lst (xa_cons (xe_tup (xa_cons (bSub (nm (i := 4)) cI) (xa_cons (uNeg cI) xa_nil))) xa_nil)))) xa_nil)))) (xe_f (xf_lst xa_nil))))) (jb_cons (js_if (jw_t (jw_or (tNe hr (xe_f (jf_lc (own := [("degree", 5), ("many", 6)]) rfl nd__law_are_halves (jc_i (ji_e (nm (i := 2)))) (blkOk_by (own := [("degree", 5), ("many", 6)]) (N := N__law_are_halves) (sc := defScope s__law_are_halves) (by decide +kernel)) (pok_tpA (poks_cons (pok_nm (i := 5)) (poks_cons (pok_nm (i := 6)) poks_nil))) (fun _ _ _ _ _ => (pg_tupA rfl (pgs_cons (gN nd__law_are_halves (i := 5)) (pgs_cons (gN nd__law_are_halves (i := 6)) pgs_nil)))) (fun _ _ _ _ _ => jts_nil) (fun _ _ _ _ _ => (nm (i := 5))) (by decide))) (xe_f (xf_lst (xa_cons cI xa_nil)))) (jw_or (tLt' (nm (i := 3)) cI) (jw_or1 (tNe hr (fLen T.b_len (nm (i := 9))) cI))))) (jb_one (js_ret cB)) jb_nil) (jb_one (js_ret (eGt (sIx (sIx (nm (i := 9)) cI) cI) cI)))))))))
theorem nd__law_is_rest : (N__law_is_rest).Nodup := by decide +kernel
theorem sc__law_is_rest : FnScope N__law_is_rest ["word", "lots"] (defScope s__law_is_rest) := ⟨rfl, rfl, rfl, nd__law_is_rest, rfl, by decide +kernel, by decide +kernel⟩
theorem bn__law_is_rest (F : FnP K "_law_is_rest" "_law_is_rest" s__law_is_rest a d) : Binds K d ["word", "lots"] [] := FunD.bindsN F fun _ _ _ _ _ _ us hl => match us, hl with | [_, _], _ => rfl
theorem ok__law_is_rest (T : Tb K mg) : FnG P w K mg base 1 T.f__law_is_rest.a T.f__law_is_rest.d ["word", "lots"] (spM K 2 f__law_is_rest) := okG T.f__law_is_rest.F sc__law_is_rest rfl fun cdv A outer s H E hr hg =>
  (jb_cons (js_if (tEq hr (nm (i := 0)) cS) (jb_one (js_ret (eEq hr (nm (i := 1)) (xe_tup (xa_cons (xe_tup (xa_cons cI (xa_cons cI xa_nil))) xa_nil))))) jb_nil) (jb_cons (js_if (tEq hr (nm (i := 0)) cS) (jb_one (js_ret (je_and (eEq hr (fLen T.b_len (nm (i := 1))) cI) (je_and (eEq hr (sIx (sIx (nm (i := 1)) cI) cI) cI) (je_and (eGt (sIx (sIx (nm (i := 1)) cI) cI) cI) (je_one (eEq hr (bMod (fInt T.b_int (sIx (sIx (nm (i := 1)) cI) cI)) cI) cI))))))) jb_nil) (jb_cons (js_if (jw_t (jw_or (tNe hr (fLen T.b_len (nm (i := 1))) cI) (jw_or1 (tNe hr (sIx (sIx (nm (i := 1)) cI) cI) cI)))) (jb_one (js_ret cB)) jb_nil) (jb_cons (js_par3 (i := 2) (j := 3) (l := 4) rfl nd__law_is_rest rfl rfl rfl (by decide) (by decide) (by decide) rfl rfl rfl (xa_cons (sIx (sIx (nm (i := 1)) cI) cI) (xa_cons (sIx (sIx (nm (i := 1)) cI) cI) (xa_cons (sIx (sIx (nm (i := 1)) cI) cI) xa_nil))) rfl) (jb_cons (js_if (tEq hr (nm (i := 0)) cS) (jb_one (js_ret (je_and (eEq hr (nm (i := 3)) cI) (je_and (eGt (nm (i := 2)) cI) (je_and (eGt (nm (i := 4)) (nm (i := 2))) (je_one (eEq hr (bMod (fInt T.b_int (bSub (nm (i := 4)) (nm (i := 2)))) cI) cI))))))) jb_nil) (jb_one (js_ret (je_and (eEq hr (nm (i := 3)) cI) (je_and (eGt (nm (i := 2)) cI) (je_and (eEq hr (bMod (fInt T.b_int (nm (i := 2))) cI) cI) (je_one (eEq hr (nm (i := 4)) (bAdd (nm (i := 2)) cI)))))))))))))
theorem nd__law_family : (N__law_family).Nodup := by decide +kernel
theorem sc__law_family : FnScope N__law_family ["piece"] (defScope s__law_family) := ⟨rfl, rfl, rfl, nd__law_family, rfl, by decide +kernel, by decide +kernel⟩
theorem bn__law_family (F : FnP K "_law_family" "_law_family" s__law_family a d) : Binds K d ["piece"] [] := FunD.bindsN F fun _ _ _ _ _ _ us hl => match us, hl with | [_], _ => rfl
theorem ok__law_family (T : Tb K mg) : FnG P w K mg base 3 T.f__law_family.a T.f__law_family.d ["piece"] (spM K 1 f__law_family) := okG T.f__law_family.F sc__law_family rfl fun cdv A outer s H E hr hg =>
  (jb_cons (js_if (tIn hr (sIx (nm (i := 0)) cI) (xl_f (xf_lst (xa_cons cS (xa_cons cS xa_nil))))) (jb_one (js_ret (xe_tup (xa_cons (sIx (nm (i := 0)) cI) (xa_cons cS xa_nil))))) jb_nil) (jb_cons (js_if (tEq hr (sIx (nm (i := 0)) cI) cS) (jb_cons (js_set nd__law_family (i := 1) rfl (by first | exact Or.inl rfl | exact Or.inr rfl) (jv_e (je_callG (ok__law_opposite T) (hr.mono (by decide)) hg rfl T.f__law_opposite.g T.f__law_opposite.F.kp (bn__law_opposite T.f__law_opposite.F) passB (xa_cons (sIx (nm (i := 0)) cI) (xa_cons (bSub (je_callG (ok__law_places T) (hr.mono (by decide)) hg rfl T.f__law_places.g T.f__law_places.F.kp (bn__law_places T.f__law_places.F) passB (xa_cons (sIx (nm (i := 0)) cI) xa_nil)) cI) xa_nil))))) (jb_cons (js_for ownB rfl (ji_e (xe_f (xf_lst (xa_cons cS (xa_cons cS (xa_cons cS (xa_cons cS xa_nil))))))) (gN nd__law_family (i := 2)) (pok_nm (i := 2)) (jb_one (js_for ownB rfl (ji_e (xe_f (xf_lst (xa_cons (xe_tup (xa_cons (fTuple T.b_tuple (sIx (nm (i := 0)) cI)) (xa_cons cS xa_nil))) (xa_cons (xe_tup (xa_cons (nm (i := 1)) (xa_cons cS xa_nil))) xa_nil))))) (pg_tupA rfl (pgs_cons (gN nd__law_family (i := 3)) (pgs_cons (gN nd__law_family (i := 4)) pgs_nil))) (pok_tpA (poks_cons (pok_nm (i := 3)) (poks_cons (pok_nm (i := 4)) poks_nil))) (jb_one (js_if (jw_t (jw_and (tGe' (sIx (sIx (nm (i := 3)) (uNeg cI)) cI) cI) (jw_and1 (jt_e (je_callG (ok__law_is_rest T) (hr.mono (by decide)) hg rfl T.f__law_is_rest.g T.f__law_is_rest.F.kp (bn__law_is_rest T.f__law_is_rest.F) passB (xa_cons (nm (i := 2)) (xa_cons (nm (i := 3)) xa_nil))))))) (jb_one (js_ret (xe_tup (xa_cons (nm (i := 2)) (xa_cons (nm (i := 4)) xa_nil))))) jb_nil))))) (jb_one (js_ret cN)))) jb_nil) (jb_cons (js_for ownB rfl (ji_e (xe_f (xf_lst (xa_cons cS (xa_cons cS (xa_cons cS xa_nil)))))) (gN nd__law_family (i := 2)) (pok_nm (i := 2)) (jb_one (js_for ownB rfl (ji_rng1 rfl T.b_range (xa_cons cI xa_nil)) (gN nd__law_family (i := 5)) (pok_nm (i := 5)) (jb_cons (js_pat (je_callG (ok__law_read T) (hr.mono (by decide)) hg rfl T.f__law_read.g T.f__law_read.F.kp (bn__law_read T.f__law_read.F) passB (xa_cons (xe_tup (xa_cons (sIx (nm (i := 0)) cI) (xa_cons (sIx (nm (i := 0)) cI) xa_nil))) (xa_cons (nm (i := 5)) xa_nil))) (pg_tupA rfl (pgs_cons (gN nd__law_family (i := 6)) (pgs_cons (gN nd__law_family (i := 7)) pgs_nil))) (pok_tpA (poks_cons (pok_nm (i := 6)) (poks_cons (pok_nm (i := 7)) poks_nil)))) (jb_one (js_if (jw_t (jw_and (tGe' (sIx (sIx (nm (i := 6)) (uNeg cI)) cI) cI) (jw_and (tGe' (sIx (sIx (nm (i := 7)) (uNeg cI)) cI) cI) (jw_and1 (jt_e (je_callG (ok__law_are_halves T) (hr.mono (by decide)) hg rfl T.f__law_are_halves.g T.f__law_are_halves.F.kp (bn__law_are_halves T.f__law_are_halves.F) passB (xa_cons (nm (i := 2)) (xa_cons (nm (i := 6)) (xa_cons (nm (i := 7)) xa_nil))))))))) (jb_one (js_ret (xe_tup (xa_cons (nm (i := 2)) (xa_cons (sIx (xe_f (xf_lst (xa_cons cS (xa_cons cS (xa_cons cS (xa_cons cS xa_nil)))))) (nm (i := 5))) xa_nil))))) jb_nil)))))) (jb_one (js_ret cN)))))
theorem nd_places_of : (N_places_of).Nodup := by decide +kernel
theorem sc_places_of : FnScope N_places_of ["kinds"] (defScope s_places_of) := ⟨rfl, rfl, rfl, nd_places_of, rfl, by decide +kernel, by decide +kernel⟩
theorem bn_places_of (F : FnP K "places_of" "places_of" s_places_of a d) : Binds K d ["kinds"] [] := FunD.bindsN F fun _ _ _ _ _ _ us hl => match us, hl with | [_], _ => rfl
theorem ok_places_of (T : Tb K mg) : FnG P w K mg base 1 T.f_places_of.a T.f_places_of.d ["kinds"] (spM K 1 f_places_of) := okG T.f_places_of.F sc_places_of rfl fun cdv A outer s H E hr hg =>
  (jb_one (js_ret (fSum rfl T.b_sum (xl_f (jf_lc (own := [("degree", 1), ("count", 2)]) rfl nd_places_of (jc_i (ji_e (nm (i := 0)))) (blkOk_by (own := [("degree", 1), ("count", 2)]) (N := N_places_of) (sc := defScope s_places_of) (by decide +kernel)) (pok_tpA (poks_cons (pok_nm (i := 1)) (poks_cons (pok_nm (i := 2)) poks_nil))) (fun _ _ _ _ _ => (pg_tupA rfl (pgs_cons (gN nd_places_of (i := 1)) (pgs_cons (gN nd_places_of (i := 2)) pgs_nil)))) (fun _ _ _ _ _ => jts_nil) (fun _ _ _ _ _ => (nm (i := 2))) (by decide))))))
theorem nd_turned_about : (N_turned_about).Nodup := by decide +kernel
theorem sc_turned_about : FnScope N_turned_about ["kinds", "top"] (defScope s_turned_about) := ⟨rfl, rfl, rfl, nd_turned_about, rfl, by decide +kernel, by decide +kernel⟩
theorem bn_turned_about (F : FnP K "turned_about" "turned_about" s_turned_about a d) : Binds K d ["kinds", "top"] [] := FunD.bindsN F fun _ _ _ _ _ _ us hl => match us, hl with | [_, _], _ => rfl
theorem ok_turned_about (T : Tb K mg) : FnG P w K mg base 1 T.f_turned_about.a T.f_turned_about.d ["kinds", "top"] (spM K 2 f_turned_about) := okG T.f_turned_about.F sc_turned_about rfl fun cdv A outer s H E hr hg =>
  (jb_cons (js_if (jw_t (jw_and (tGt' (fLen T.b_len (nm (i := 0))) cI) (jw_and1 (tGt' (sIx (sIx (nm (i := 0)) cI) cI) (nm (i := 1)))))) (jb_one (js_ret cN)) jb_nil) (jb_one (js_ret (xe_f (jf_lc (own := [("degree", 2), ("count", 3)]) rfl nd_turned_about (jc_i (ji_e (je_rev (fList T.b_list (xl_e (nm (i := 0))))))) (blkOk_by (own := [("degree", 2), ("count", 3)]) (N := N_turned_about) (sc := defScope s_turned_about) (by decide +kernel)) (pok_tpA (poks_cons (pok_nm (i := 2)) (poks_cons (pok_nm (i := 3)) poks_nil))) (fun _ _ _ _ _ => (pg_tupA rfl (pgs_cons (gN nd_turned_about (i := 2)) (pgs_cons (gN nd_turned_about (i := 3)) pgs_nil)))) (fun _ _ _ _ _ => jts_nil) (fun _ _ _ _ _ => (xe_tup (xa_cons (bSub (nm (i := 1)) (nm (i := 2))) (xa_cons (nm (i := 3)) xa_nil)))) (by decide))))))
theorem nd_halves_read : (N_halves_read).Nodup := by decide +kernel
theorem sc_halves_read : FnScope N_halves_read ["inner", "outer", "reading"] (defScope s_halves_read) := ⟨rfl, rfl, rfl, nd_halves_read, rfl, by decide +kernel, by decide +kernel⟩
theorem bn_halves_read (F : FnP K "halves_read" "halves_read" s_halves_read a d) : Binds K d ["inner", "outer", "reading"] [] := FunD.bindsN F fun _ _ _ _ _ _ us hl => match us, hl with | [_, _, _], _ => rfl
theorem ok_halves_read (T : Tb K mg) : FnG P w K mg base 2 T.f_halves_read.a T.f_halves_read.d ["inner", "outer", "reading"] (spM K 3 f_halves_read) := okG T.f_halves_read.F sc_halves_read rfl fun cdv A outer s H E hr hg =>
  (jb_cons (js_if (tIn hr (nm (i := 2)) (xl_e (xe_tup (xa_cons cS (xa_cons cS xa_nil))))) (jb_one (js_set nd_halves_read (i := 3) rfl (by first | exact Or.inl rfl | exact Or.inr rfl) (jv_e (xe_tup (xa_cons (fList T.b_list (xl_e (nm (i := 0)))) (xa_cons (fList T.b_list (xl_e (nm (i := 1)))) xa_nil)))))) (jb_one (js_set nd_halves_read (i := 3) rfl (by first | exact Or.inl rfl | exact Or.inr rfl) (jv_e (xe_tup (xa_cons (je_callG (ok_turned_about T) (hr.mono (by decide)) hg rfl T.f_turned_about.g T.f_turned_about.F.kp (bn_turned_about T.f_turned_about.F) passB (xa_cons (nm (i := 0)) (xa_cons (je_callG (ok_places_of T) (hr.mono (by decide)) hg rfl T.f_places_of.g T.f_places_of.F.kp (bn_places_of T.f_places_of.F) passB (xa_cons (nm (i := 1)) xa_nil)) xa_nil))) (xa_cons (je_callG (ok_turned_about T) (hr.mono (by decide)) hg rfl T.f_turned_about.g T.f_turned_about.F.kp (bn_turned_about T.f_turned_about.F) passB (xa_cons (nm (i := 1)) (xa_cons (je_callG (ok_places_of T) (hr.mono (by decide)) hg rfl T.f_places_of.g T.f_places_of.F.kp (bn_places_of T.f_places_of.F) passB (xa_cons (nm (i := 0)) xa_nil)) xa_nil))) xa_nil))))))) (jb_cons (js_if (jw_t (jw_or (jt_isN (sIx (nm (i := 3)) cI)) (jw_or1 (jt_isN (sIx (nm (i := 3)) cI))))) (jb_one (js_ret cN)) jb_nil) (jb_one (js_ret (je_if (tIn hr (nm (i := 2)) (xl_e (xe_tup (xa_cons cS (xa_cons cS xa_nil))))) (nm (i := 3)) (xe_tup (xa_cons (sIx (nm (i := 3)) cI) (xa_cons (sIx (nm (i := 3)) cI) xa_nil))))))))
theorem nd_ends_of : (N_ends_of).Nodup := by decide +kernel
theorem sc_ends_of : FnScope N_ends_of ["kinds"] (defScope s_ends_of) := ⟨rfl, rfl, rfl, nd_ends_of, rfl, by decide +kernel, by decide +kernel⟩
theorem bn_ends_of (F : FnP K "ends_of" "ends_of" s_ends_of a d) : Binds K d ["kinds"] [] := FunD.bindsN F fun _ _ _ _ _ _ us hl => match us, hl with | [_], _ => rfl
theorem ok_ends_of (T : Tb K mg) : FnG P w K mg base 1 T.f_ends_of.a T.f_ends_of.d ["kinds"] (spM K 1 f_ends_of) := okG T.f_ends_of.F sc_ends_of rfl fun cdv A outer s H E hr hg =>
  (jb_one (js_ret (fSum rfl T.b_sum (xl_f (jf_lc (own := [("degree", 1), ("count", 2)]) rfl nd_ends_of (jc_i (ji_e (nm (i := 0)))) (blkOk_by (own := [("degree", 1), ("count", 2)]) (N := N_ends_of) (sc := defScope s_ends_of) (by decide +kernel)) (pok_tpA (poks_cons (pok_nm (i := 1)) (poks_cons (pok_nm (i := 2)) poks_nil))) (fun _ _ _ _ _ => (pg_tupA rfl (pgs_cons (gN nd_ends_of (i := 1)) (pgs_cons (gN nd_ends_of (i := 2)) pgs_nil)))) (fun _ _ _ _ _ => jts_nil) (fun _ _ _ _ _ => (bMul (nm (i := 1)) (nm (i := 2)))) (by decide))))))
theorem nd_single_besides : (N_single_besides).Nodup := by decide +kernel
theorem sc_single_besides : FnScope N_single_besides ["kinds", "degree"] (defScope s_single_besides) := ⟨rfl, rfl, rfl, nd_single_besides, rfl, by decide +kernel, by decide +kernel⟩
theorem bn_single_besides (F : FnP K "single_besides" "single_besides" s_single_besides a d) : Binds K d ["kinds", "degree"] [] := FunD.bindsN F fun _ _ _ _ _ _ us hl => match us, hl with | [_, _], _ => rfl
theorem ok_single_besides (T : Tb K mg) : FnG P w K mg base 1 T.f_single_besides.a T.f_single_besides.d ["kinds", "degree"] (spM K 2 f_single_besides) := okG T.f_single_besides.F sc_single_besides rfl fun cdv A outer s H E hr hg =>
  (jb_cons (lcE (own := [("kind", 2)]) rfl nd_single_besides (jc_i (ji_e (nm (i := 0)))) (blkOk_by (own := [("kind", 2)]) (N := N_single_besides) (sc := defScope s_single_besides) (by decide +kernel)) (pok_nm (i := 2)) (fun _ _ _ _ _ => (gN nd_single_besides (i := 2))) (fun _ _ _ _ _ => jts_one (tNe hr (sIx (nm (i := 2)) cI) (nm (i := 1)))) (fun _ _ _ _ _ => (nm (i := 2))) (by decide) (i := 3) rfl rfl (sw_true rfl rfl rfl (by decide +kernel))) (jb_one (js_ret (je_if (jw_t (jw_and (tEq hr (fLen T.b_len (nm (i := 3))) cI) (jw_and1 (tEq hr (sIx (sIx (nm (i := 3)) cI) cI) cI)))) (sIx (sIx (nm (i := 3)) cI) cI) cN))))
theorem nd_is_bridge : (N_is_bridge).Nodup := by decide +kernel
theorem sc_is_bridge : FnScope N_is_bridge ["inner", "outer"] (defScope s_is_bridge) := ⟨rfl, rfl, rfl, nd_is_bridge, rfl, by decide +kernel, by decide +kernel⟩
theorem bn_is_bridge (F : FnP K "is_bridge" "is_bridge" s_is_bridge a d) : Binds K d ["inner", "outer"] [] := FunD.bindsN F fun _ _ _ _ _ _ us hl => match us, hl with | [_, _], _ => rfl
theorem ok_is_bridge (T : Tb K mg) : FnG P w K mg base 2 T.f_is_bridge.a T.f_is_bridge.d ["inner", "outer"] (spM K 2 f_is_bridge) := okG T.f_is_bridge.F sc_is_bridge rfl fun cdv A outer s H E hr hg =>
  (jb_cons (js_set nd_is_bridge (i := 2) rfl (by first | exact Or.inl rfl | exact Or.inr rfl) (jv_e (je_callG (ok_single_besides T) (hr.mono (by decide)) hg rfl T.f_single_besides.g T.f_single_besides.F.kp (bn_single_besides T.f_single_besides.F) passB (xa_cons (nm (i := 1)) (xa_cons cI xa_nil))))) (jb_cons (js_if (jw_t (jw_or (tNe hr (fLen T.b_len (nm (i := 0))) cI) (jw_or (tLt' (sIx (sIx (nm (i := 0)) cI) cI) cI) (jw_or1 (jt_isN (nm (i := 2))))))) (jb_one (js_ret cB)) jb_nil) (jb_one (js_ret (je_and (eLeLe cI (nm (i := 2)) (bSub (sIx (sIx (nm (i := 0)) cI) cI) cI)) (je_one (eGt (je_callG (ok_places_of T) (hr.mono (by decide)) hg rfl T.f_places_of.g T.f_places_of.F.kp (bn_places_of T.f_places_of.F) passB (xa_cons (nm (i := 1)) xa_nil)) cI)))))))
theorem nd_is_crown : (N_is_crown).Nodup := by decide +kernel
theorem sc_is_crown : FnScope N_is_crown ["inner", "outer"] (defScope s_is_crown) := ⟨rfl, rfl, rfl, nd_is_crown, rfl, by decide +kernel, by decide +kernel⟩
theorem bn_is_crown (F : FnP K "is_crown" "is_crown" s_is_crown a d) : Binds K d ["inner", "outer"] [] := FunD.bindsN F fun _ _ _ _ _ _ us hl => match us, hl with | [_, _], _ => rfl
theorem ok_is_crown (T : Tb K mg) : FnG P w K mg base 2 T.f_is_crown.a T.f_is_crown.d ["inner", "outer"] (spM K 2 f_is_crown) := okG T.f_is_crown.F sc_is_crown rfl fun cdv A outer s H E hr hg =>
  (jb_cons (par2 (i := 2) (j := 3) rfl nd_is_crown rfl rfl (by decide) rfl rfl (jvs_cons (jv_e (je_callG (ok_places_of T) (hr.mono (by decide)) hg rfl T.f_places_of.g T.f_places_of.F.kp (bn_places_of T.f_places_of.F) passB (xa_cons (nm (i := 0)) xa_nil))) (jvs_cons (jv_e (je_callG (ok_places_of T) (hr.mono (by decide)) hg rfl T.f_places_of.g T.f_places_of.F.kp (bn_places_of T.f_places_of.F) passB (xa_cons (nm (i := 1)) xa_nil))) jvs_nil)) rfl) (jb_cons (js_if (jw_t (jw_or (tNe hr (fLen T.b_len (nm (i := 1))) cI) (jw_or (tNe hr (sIx (sIx (nm (i := 1)) cI) cI) cI) (jw_or1 (tLt' (nm (i := 2)) cI))))) (jb_one (js_ret cB)) jb_nil) (jb_cons (js_if (tEq hr (fLen T.b_len (nm (i := 0))) cI) (jb_one (js_ret (je_and (eEq hr (sIx (sIx (nm (i := 0)) cI) cI) (bSub (nm (i := 3)) cI)) (je_one (eGt (nm (i := 3)) cI))))) jb_nil) (jb_cons (js_if (jw_t (jw_or (tNe hr (fLen T.b_len (nm (i := 0))) cI) (jw_or1 (tLt' (sIx (sIx (nm (i := 0)) cI) cI) cI)))) (jb_one (js_ret cB)) jb_nil) (jb_one (js_ret (eIn hr (bSub (nm (i := 3)) cI) (xl_f (jf_lc (own := [("degree", 4), ("count", 5)]) rfl nd_is_crown (jc_i (ji_e (nm (i := 0)))) (blkOk_by (own := [("degree", 4), ("count", 5)]) (N := N_is_crown) (sc := defScope s_is_crown) (by decide +kernel)) (pok_tpA (poks_cons (pok_nm (i := 4)) (poks_cons (pok_nm (i := 5)) poks_nil))) (fun _ _ _ _ _ => (pg_tupA rfl (pgs_cons (gN nd_is_crown (i := 4)) (pgs_cons (gN nd_is_crown (i := 5)) pgs_nil)))) (fun _ _ _ _ _ => jts_one (tEq hr (nm (i := 5)) cI)) (fun _ _ _ _ _ => (nm (i := 4))) (by decide))))))))))
theorem nd_is_halves_of : (N_is_halves_of).Nodup := by decide +kernel
theorem sc_is_halves_of : FnScope N_is_halves_of ["word", "inner", "outer"] (defScope s_is_halves_of) := ⟨rfl, rfl, rfl, nd_is_halves_of, rfl, by decide +kernel, by decide +kernel⟩
theorem bn_is_halves_of (F : FnP K "is_halves_of" "is_halves_of" s_is_halves_of a d) : Binds K d ["word", "inner", "outer"] [] := FunD.bindsN F fun _ _ _ _ _ _ us hl => match us, hl with | [_, _, _], _ => rfl
theorem ok_is_halves_of (T : Tb K mg) : FnG P w K mg base 3 T.f_is_halves_of.a T.f_is_halves_of.d ["word", "inner", "outer"] (spM K 3 f_is_halves_of) := okG T.f_is_halves_of.F sc_is_halves_of rfl fun cdv A outer s H E hr hg =>
  (jb_cons (js_if (tNe hr (je_callG (ok_ends_of T) (hr.mono (by decide)) hg rfl T.f_ends_of.g T.f_ends_of.F.kp (bn_ends_of T.f_ends_of.F) passB (xa_cons (nm (i := 1)) xa_nil)) (je_callG (ok_ends_of T) (hr.mono (by decide)) hg rfl T.f_ends_of.g T.f_ends_of.F.kp (bn_ends_of T.f_ends_of.F) passB (xa_cons (nm (i := 2)) xa_nil))) (jb_one (js_ret cB)) jb_nil) (jb_cons (js_if (tEq hr (nm (i := 0)) cS) (jb_one (js_ret (je_and (eEq hr (fLen T.b_len (nm (i := 2))) cI) (je_and (eEq hr (sIx (sIx (nm (i := 2)) cI) cI) cI) (je_and (eGe (sIx (sIx (nm (i := 1)) (uNeg cI)) cI) cI) (je_one (eGe (je_callG (ok_places_of T) (hr.mono (by decide)) hg rfl T.f_places_of.g T.f_places_of.F.kp (bn_places_of T.f_places_of.F) passB (xa_cons (nm (i := 1)) xa_nil)) cI))))))) jb_nil) (jb_one (js_ret (je_if (tEq hr (nm (i := 0)) cS) (je_callG (ok_is_bridge T) (hr.mono (by decide)) hg rfl T.f_is_bridge.g T.f_is_bridge.F.kp (bn_is_bridge T.f_is_bridge.F) passB (xa_cons (nm (i := 1)) (xa_cons (nm (i := 2)) xa_nil))) (je_callG (ok_is_crown T) (hr.mono (by decide)) hg rfl T.f_is_crown.g T.f_is_crown.F.kp (bn_is_crown T.f_is_crown.F) passB (xa_cons (nm (i := 1)) (xa_cons (nm (i := 2)) xa_nil))))))))
theorem nd_is_rest_of : (N_is_rest_of).Nodup := by decide +kernel
theorem sc_is_rest_of : FnScope N_is_rest_of ["word", "kinds"] (defScope s_is_rest_of) := ⟨rfl, rfl, rfl, nd_is_rest_of, rfl, by decide +kernel, by decide +kernel⟩
theorem bn_is_rest_of (F : FnP K "is_rest_of" "is_rest_of" s_is_rest_of a d) : Binds K d ["word", "kinds"] [] := FunD.bindsN F fun _ _ _ _ _ _ us hl => match us, hl with | [_, _], _ => rfl
theorem ok_is_rest_of (T : Tb K mg) : FnG P w K mg base 1 T.f_is_rest_of.a T.f_is_rest_of.d ["word", "kinds"] (spM K 2 f_is_rest_of) := okG T.f_is_rest_of.F sc_is_rest_of rfl fun cdv A outer s H E hr hg =>
  (jb_cons (js_if (tEq hr (nm (i := 0)) cS) (jb_one (js_ret (eEq hr (nm (i := 1)) (xe_f (xf_lst (xa_cons (xe_tup (xa_cons cI (xa_cons cI xa_nil))) xa_nil)))))) jb_nil) (jb_cons (js_if (tEq hr (nm (i := 0)) cS) (jb_one (js_ret (je_and (eEq hr (fLen T.b_len (nm (i := 1))) cI) (je_and (eEq hr (sIx (sIx (nm (i := 1)) cI) cI) cI) (je_and (eGe (sIx (sIx (nm (i := 1)) cI) cI) cI) (je_one (eEq hr (bMod (sIx (sIx (nm (i := 1)) cI) cI) cI) cI))))))) jb_nil) (jb_cons (js_if (jw_t (jw_or (tNe hr (fLen T.b_len (nm (i := 1))) cI) (jw_or1 (tNe hr (sIx (sIx (nm (i := 1)) cI) cI) cI)))) (jb_one (js_ret cB)) jb_nil) (jb_cons (js_pat (nm (i := 1)) (pg_tupA rfl (pgs_cons (pg_tupA rfl (pgs_cons (gN nd_is_rest_of (i := 2)) (pgs_cons (gN nd_is_rest_of (i := 3)) pgs_nil))) (pgs_cons (pg_tupA rfl (pgs_cons (gN nd_is_rest_of (i := 4)) (pgs_cons (gN nd_is_rest_of (i := 5)) pgs_nil))) pgs_nil))) (pok_tpA (poks_cons (pok_tpA (poks_cons (pok_nm (i := 2)) (poks_cons (pok_nm (i := 3)) poks_nil))) (poks_cons (pok_tpA (poks_cons (pok_nm (i := 4)) (poks_cons (pok_nm (i := 5)) poks_nil))) poks_nil)))) (jb_cons (js_if (tEq hr (nm (i := 0)) cS) (jb_one (js_ret (je_and (eEq hr (nm (i := 4)) cI) (je_and (eGe (nm (i := 2)) cI) (je_and (eGt (nm (i := 5)) (nm (i := 2))) (je_one (eEq hr (bMod (bSub (nm (i := 5)) (nm (i := 2))) cI) cI))))))) jb_nil) (jb_one (js_ret (je_and (eEq hr (nm (i := 4)) cI) (je_and (eGe (nm (i := 2)) cI) (je_and (eEq hr (bMod (nm (i := 2)) cI) cI) (je_one (eEq hr (nm (i := 5)) (bAdd (nm (i := 2)) cI)))))))))))))
theorem nd_rest_read : (N_rest_read).Nodup := by decide +kernel
theorem sc_rest_read : FnScope N_rest_read ["kinds", "reading"] (defScope s_rest_read) := ⟨rfl, rfl, rfl, nd_rest_read, rfl, by decide +kernel, by decide +kernel⟩
theorem bn_rest_read (F : FnP K "rest_read" "rest_read" s_rest_read a d) : Binds K d ["kinds", "reading"] [] := FunD.bindsN F fun _ _ _ _ _ _ us hl => match us, hl with | [_, _], _ => rfl
theorem ok_rest_read (T : Tb K mg) : FnG P w K mg base 2 T.f_rest_read.a T.f_rest_read.d ["kinds", "reading"] (spM K 2 f_rest_read) := okG T.f_rest_read.F sc_rest_read rfl fun cdv A outer s H E hr hg =>
  (jb_one (js_ret (je_if (tEq hr (nm (i := 1)) cS) (fList T.b_list (xl_e (nm (i := 0)))) (je_callG (ok_turned_about T) (hr.mono (by decide)) hg rfl T.f_turned_about.g T.f_turned_about.F.kp (bn_turned_about T.f_turned_about.F) passB (xa_cons (nm (i := 0)) (xa_cons (bSub (je_callG (ok_places_of T) (hr.mono (by decide)) hg rfl T.f_places_of.g T.f_places_of.F.kp (bn_places_of T.f_places_of.F) passB (xa_cons (nm (i := 0)) xa_nil)) cI) xa_nil))))))
theorem nd_family_of : (N_family_of).Nodup := by decide +kernel
theorem sc_family_of : FnScope N_family_of ["piece"] (defScope s_family_of) := ⟨rfl, rfl, rfl, nd_family_of, rfl, by decide +kernel, by decide +kernel⟩
theorem bn_family_of (F : FnP K "family_of" "family_of" s_family_of a d) : Binds K d ["piece"] [] := FunD.bindsN F fun _ _ _ _ _ _ us hl => match us, hl with | [_], _ => rfl
theorem ok_family_of (T : Tb K mg) : FnG P w K mg base 4 T.f_family_of.a T.f_family_of.d ["piece"] (spM K 1 f_family_of) := okG T.f_family_of.F sc_family_of rfl fun cdv A outer s H E hr hg =>
  (jb_cons (js_if (tIn hr (sIx (nm (i := 0)) cI) (xl_e (xe_tup (xa_cons cS (xa_cons cS xa_nil))))) (jb_one (js_ret (xe_tup (xa_cons (sIx (nm (i := 0)) cI) (xa_cons cS xa_nil))))) jb_nil) (jb_cons (js_if (tEq hr (sIx (nm (i := 0)) cI) cS) (jb_cons (js_for ownB rfl (ji_e (je_gl T.c_RESTS.r rfl T.c_RESTS.g)) (gN nd_family_of (i := 1)) (pok_nm (i := 1)) (jb_one (js_for ownB rfl (ji_e (xe_tup (xa_cons cS (xa_cons cS xa_nil)))) (gN nd_family_of (i := 2)) (pok_nm (i := 2)) (jb_cons (js_set nd_family_of (i := 3) rfl (by first | exact Or.inl rfl | exact Or.inr rfl) (jv_e (je_callG (ok_rest_read T) (hr.mono (by decide)) hg rfl T.f_rest_read.g T.f_rest_read.F.kp (bn_rest_read T.f_rest_read.F) passB (xa_cons (sIx (nm (i := 0)) cI) (xa_cons (nm (i := 2)) xa_nil))))) (jb_one (js_if (jw_t (jw_and (jt_notN (nm (i := 3))) (jw_and1 (jt_e (je_callG (ok_is_rest_of T) (hr.mono (by decide)) hg rfl T.f_is_rest_of.g T.f_is_rest_of.F.kp (bn_is_rest_of T.f_is_rest_of.F) passB (xa_cons (nm (i := 1)) (xa_cons (nm (i := 3)) xa_nil))))))) (jb_one (js_ret (xe_tup (xa_cons (nm (i := 1)) (xa_cons (nm (i := 2)) xa_nil))))) jb_nil)))))) (jb_one (js_ret cN))) jb_nil) (jb_cons (js_for ownB rfl (ji_e (je_gl T.c_HALVES.r rfl T.c_HALVES.g)) (gN nd_family_of (i := 1)) (pok_nm (i := 1)) (jb_one (js_for ownB rfl (ji_e (je_gl T.c_READINGS.r rfl T.c_READINGS.g)) (gN nd_family_of (i := 2)) (pok_nm (i := 2)) (jb_cons (js_set nd_family_of (i := 4) rfl (by first | exact Or.inl rfl | exact Or.inr rfl) (jv_e (je_callG (ok_halves_read T) (hr.mono (by decide)) hg rfl T.f_halves_read.g T.f_halves_read.F.kp (bn_halves_read T.f_halves_read.F) passB (xa_cons (sIx (nm (i := 0)) cI) (xa_cons (sIx (nm (i := 0)) cI) (xa_cons (nm (i := 2)) xa_nil)))))) (jb_one (js_if (jw_t (jw_and (jt_notN (nm (i := 4))) (jw_and1 (jt_e (je_callG (ok_is_halves_of T) (hr.mono (by decide)) hg rfl T.f_is_halves_of.g T.f_is_halves_of.F.kp (bn_is_halves_of T.f_is_halves_of.F) passB (xa_cons (nm (i := 1)) (xa_cons (sIx (nm (i := 4)) cI) (xa_cons (sIx (nm (i := 4)) cI) xa_nil)))))))) (jb_one (js_ret (xe_tup (xa_cons (nm (i := 1)) (xa_cons (nm (i := 2)) xa_nil))))) jb_nil)))))) (jb_one (js_ret cN)))))
theorem nd_is_integer : (N_is_integer).Nodup := by decide +kernel
theorem sc_is_integer : FnScope N_is_integer ["value"] (defScope s_is_integer) := ⟨rfl, rfl, rfl, nd_is_integer, rfl, by decide +kernel, by decide +kernel⟩
theorem bn_is_integer (F : FnP K "is_integer" "is_integer" s_is_integer a d) : Binds K d ["value"] [] := FunD.bindsN F fun _ _ _ _ _ _ us hl => match us, hl with | [_], _ => rfl
theorem ok_is_integer (T : Tb K mg) : FnG P w K mg base 1 T.f_is_integer.a T.f_is_integer.d ["value"] (spM K 1 f_is_integer) := okG T.f_is_integer.F sc_is_integer rfl fun cdv A outer s H E hr hg =>
  (jb_one (js_ret (je_and (fIsi T.b_isinstance (nm (i := 0)) (tyN T.b_int)) (je_one (je_not (fIsi T.b_isinstance (nm (i := 0)) (tyN T.b_bool)))))))
theorem nd_is_count : (N_is_count).Nodup := by decide +kernel
theorem sc_is_count : FnScope N_is_count ["value"] (defScope s_is_count) := ⟨rfl, rfl, rfl, nd_is_count, rfl, by decide +kernel, by decide +kernel⟩
theorem bn_is_count (F : FnP K "is_count" "is_count" s_is_count a d) : Binds K d ["value"] [] := FunD.bindsN F fun _ _ _ _ _ _ us hl => match us, hl with | [_], _ => rfl
theorem ok_is_count (T : Tb K mg) : FnG P w K mg base 2 T.f_is_count.a T.f_is_count.d ["value"] (spM K 1 f_is_count) := okG T.f_is_count.F sc_is_count rfl fun cdv A outer s H E hr hg =>
  (jb_one (js_ret (je_and (je_callG (ok_is_integer T) (hr.mono (by decide)) hg rfl T.f_is_integer.g T.f_is_integer.F.kp (bn_is_integer T.f_is_integer.F) passB (xa_cons (nm (i := 0)) xa_nil)) (je_one (eGe (nm (i := 0)) cI)))))
theorem nd_is_kind : (N_is_kind).Nodup := by decide +kernel
theorem sc_is_kind : FnScope N_is_kind ["value", "before"] (defScope s_is_kind) := ⟨rfl, rfl, rfl, nd_is_kind, rfl, by decide +kernel, by decide +kernel⟩
theorem bn_is_kind (F : FnP K "is_kind" "is_kind" s_is_kind a d) : Binds K d ["value", "before"] [] := FunD.bindsN F fun _ _ _ _ _ _ us hl => match us, hl with | [_, _], _ => rfl
theorem ok_is_kind (T : Tb K mg) : FnG P w K mg base 3 T.f_is_kind.a T.f_is_kind.d ["value", "before"] (spM K 2 f_is_kind) := okG T.f_is_kind.F sc_is_kind rfl fun cdv A outer s H E hr hg =>
  (jb_cons (js_if (jw_t (jw_or (jt_not (jt_e (fIsi T.b_isinstance (nm (i := 0)) (tyN T.b_tuple)))) (jw_or (tNe hr (fLen T.b_len (nm (i := 0))) cI) (jw_or (jt_not (jt_e (je_callG (ok_is_count T) (hr.mono (by decide)) hg rfl T.f_is_count.g T.f_is_count.F.kp (bn_is_count T.f_is_count.F) passB (xa_cons (sIx (nm (i := 0)) cI) xa_nil)))) (jw_or1 (tGt' (sIx (nm (i := 0)) cI) (je_gl T.c_MOST_DEGREE.r rfl T.c_MOST_DEGREE.g))))))) (jb_one (js_ret cB)) jb_nil) (jb_cons (js_if (jw_t (jw_or (jt_not (jt_e (je_callG (ok_is_integer T) (hr.mono (by decide)) hg rfl T.f_is_integer.g T.f_is_integer.F.kp (bn_is_integer T.f_is_integer.F) passB (xa_cons (sIx (nm (i := 0)) cI) xa_nil)))) (jw_or1 (jt_not (tLeLe cI (sIx (nm (i := 0)) cI) (je_gl T.c_MOST_COUNT.r rfl T.c_MOST_COUNT.g)))))) (jb_one (js_ret cB)) jb_nil) (jb_one (js_ret (je_or (je_isN (nm (i := 1))) (je_one (eLt (sIx (nm (i := 0)) cI) (sIx (nm (i := 1)) cI))))))))
theorem nd_wrong_kind : (N_wrong_kind).Nodup := by decide +kernel
theorem sc_wrong_kind : FnScope N_wrong_kind ["value"] (defScope s_wrong_kind) := ⟨rfl, rfl, rfl, nd_wrong_kind, rfl, by decide +kernel, by decide +kernel⟩
theorem bn_wrong_kind (F : FnP K "wrong_kind" "wrong_kind" s_wrong_kind a d) : Binds K d ["value"] [] := FunD.bindsN F fun _ _ _ _ _ _ us hl => match us, hl with | [_], _ => rfl
theorem ok_wrong_kind (T : Tb K mg) : FnG P w K mg base 4 T.f_wrong_kind.a T.f_wrong_kind.d ["value"] (spM K 1 f_wrong_kind) := okG T.f_wrong_kind.F sc_wrong_kind rfl fun cdv A outer s H E hr hg =>
  (jb_cons (js_if (jw_t (jw_or (jt_not (jt_e (fIsi T.b_isinstance (nm (i := 0)) (tyN T.b_tuple)))) (jw_or1 (tEq hr (fLen T.b_len (nm (i := 0))) cI)))) (jb_one (js_ret (uNeg cI))) jb_nil) (jb_cons (js_for ownB rfl (ji_enum rfl T.b_enumerate (nm (i := 0))) (pg_tupA rfl (pgs_cons (gN nd_wrong_kind (i := 1)) (pgs_cons (gN nd_wrong_kind (i := 2)) pgs_nil))) (pok_tpA (poks_cons (pok_nm (i := 1)) (poks_cons (pok_nm (i := 2)) poks_nil))) (jb_one (js_if (jw_t (jw_or (tEq hr (nm (i := 1)) (je_gl T.c_MOST_KINDS.r rfl T.c_MOST_KINDS.g)) (jw_or1 (jt_not (jt_e (je_callG (ok_is_kind T) (hr.mono (by decide)) hg rfl T.f_is_kind.g T.f_is_kind.F.kp (bn_is_kind T.f_is_kind.F) passB (xa_cons (nm (i := 2)) (xa_cons (je_if (tEq hr (nm (i := 1)) cI) cN (sIx (nm (i := 0)) (bSub (nm (i := 1)) cI))) xa_nil)))))))) (jb_one (js_ret (nm (i := 1)))) jb_nil))) (jb_one (js_ret cN))))
theorem nd_is_piece : (N_is_piece).Nodup := by decide +kernel
theorem sc_is_piece : FnScope N_is_piece ["value"] (defScope s_is_piece) := ⟨rfl, rfl, rfl, nd_is_piece, rfl, by decide +kernel, by decide +kernel⟩
theorem bn_is_piece (F : FnP K "is_piece" "is_piece" s_is_piece a d) : Binds K d ["value"] [] := FunD.bindsN F fun _ _ _ _ _ _ us hl => match us, hl with | [_], _ => rfl
theorem ok_is_piece (T : Tb K mg) : FnG P w K mg base 5 T.f_is_piece.a T.f_is_piece.d ["value"] (spM K 1 f_is_piece) := okG T.f_is_piece.F sc_is_piece rfl fun cdv A outer s H E hr hg =>
  (jb_cons (js_if (jw_t (jw_or (jt_not (jt_e (fIsi T.b_isinstance (nm (i := 0)) (tyN T.b_tuple)))) (jw_or (tLt' (fLen T.b_len (nm (i := 0))) cI) (jw_or1 (jt_not (jt_e (fIsi T.b_isinstance (sIx (nm (i := 0)) cI) (tyN T.b_str)))))))) (jb_one (js_ret cB)) jb_nil) (jb_cons (js_if (tIn hr (sIx (nm (i := 0)) cI) (xl_e (xe_tup (xa_cons cS (xa_cons cS xa_nil))))) (jb_one (js_ret (je_and (eEq hr (fLen T.b_len (nm (i := 0))) cI) (je_and (je_callG (ok_is_integer T) (hr.mono (by decide)) hg rfl T.f_is_integer.g T.f_is_integer.F.kp (bn_is_integer T.f_is_integer.F) passB (xa_cons (sIx (nm (i := 0)) cI) xa_nil)) (je_one (eGe (sIx (nm (i := 0)) cI) cI)))))) jb_nil) (jb_cons (js_if (tEq hr (sIx (nm (i := 0)) cI) cS) (jb_one (js_ret (je_and (eEq hr (fLen T.b_len (nm (i := 0))) cI) (je_one (je_isN (je_callG (ok_wrong_kind T) (hr.mono (by decide)) hg rfl T.f_wrong_kind.g T.f_wrong_kind.F.kp (bn_wrong_kind T.f_wrong_kind.F) passB (xa_cons (sIx (nm (i := 0)) cI) xa_nil))))))) jb_nil) (jb_one (js_ret (je_and (eEq hr (sIx (nm (i := 0)) cI) cS) (je_and (eEq hr (fLen T.b_len (nm (i := 0))) cI) (je_one (eEq hr (xe_f (jf_lc (own := [("kinds", 1)]) rfl nd_is_piece (jc_i (ji_e (je_sl (nm (i := 0)) (jo_e cI) jo_no))) (blkOk_by (own := [("kinds", 1)]) (N := N_is_piece) (sc := defScope s_is_piece) (by decide +kernel)) (pok_nm (i := 1)) (fun _ _ _ _ _ => (gN nd_is_piece (i := 1))) (fun _ _ _ _ _ => jts_nil) (fun _ _ _ _ _ => (je_callG (ok_wrong_kind T) (hr.mono (by decide)) hg rfl T.f_wrong_kind.g T.f_wrong_kind.F.kp (bn_wrong_kind T.f_wrong_kind.F) pass00 (xa_cons (nm (i := 1)) xa_nil))) (by decide))) (xe_f (xf_lst (xa_cons cN (xa_cons cN xa_nil)))))))))))))
theorem nd_family : (N_family).Nodup := by decide +kernel
theorem sc_family : FnScope N_family ["piece"] (defScope s_family) := ⟨rfl, rfl, rfl, nd_family, rfl, by decide +kernel, by decide +kernel⟩
theorem bn_family (F : FnP K "family" "family" s_family a d) : Binds K d ["piece"] [] := FunD.bindsN F fun _ _ _ _ _ _ us hl => match us, hl with | [_], _ => rfl
theorem kb_family_piece (F : FnP K "family" "family" s_family a d) : KB K d ["piece"] ["piece"] [0] := kb_of F fun _ _ _ _ _ _ us hl => match us, hl with | [_], _ => rfl
theorem ok_family (T : Tb K mg) : FnG P w K mg base 6 T.f_family.a T.f_family.d ["piece"] (spM K 1 f_family) := okG T.f_family.F sc_family rfl fun cdv A outer s H E hr hg =>
  (jb_cons (js_if (jt_not (jt_e (je_callG (ok_is_piece T) (hr.mono (by decide)) hg rfl T.f_is_piece.g T.f_is_piece.F.kp (bn_is_piece T.f_is_piece.F) passB (xa_cons (nm (i := 0)) xa_nil)))) (jb_one js_no) jb_nil) (jb_one (js_ret (je_callG (ok_family_of T) (hr.mono (by decide)) hg rfl T.f_family_of.g T.f_family_of.F.kp (bn_family_of T.f_family_of.F) passB (xa_cons (nm (i := 0)) xa_nil)))))
theorem nd__law_right : (N__law_right).Nodup := by decide +kernel
theorem sc__law_right : FnScope N__law_right ["well"] (defScope s__law_right) := ⟨rfl, rfl, rfl, nd__law_right, rfl, by decide +kernel, by decide +kernel⟩
theorem bn__law_right (F : FnP K "_law_right" "_law_right" s__law_right a d) : Binds K d ["well"] [] := FunD.bindsN F fun _ _ _ _ _ _ us hl => match us, hl with | [_], _ => rfl
theorem ok__law_right (T : Tb K mg) : FnG P w K mg base 7 T.f__law_right.a T.f__law_right.d ["well"] (spM K 1 f__law_right) := okG T.f__law_right.F sc__law_right rfl fun cdv A outer s H E hr hg =>
  (jb_cons (js_for ownB rfl (ji_rng1 rfl T.b_range (xa_cons cI xa_nil)) (gN nd__law_right (i := 1)) (pok_nm (i := 1)) (jb_cons (js_set nd__law_right (i := 2) rfl (by first | exact Or.inl rfl | exact Or.inr rfl) (jv_e (je_callG (ok__law_any_piece T) (hr.mono (by decide)) hg rfl T.f__law_any_piece.g T.f__law_any_piece.F.kp (bn__law_any_piece T.f__law_any_piece.F) passB (xa_cons (nm (i := 0)) xa_nil)))) (jb_cons (js_set nd__law_right (i := 3) rfl (by first | exact Or.inl rfl | exact Or.inr rfl) (jv_e (je_callG (ok__law_family T) (hr.mono (by decide)) hg rfl T.f__law_family.g T.f__law_family.F.kp (bn__law_family T.f__law_family.F) passB (xa_cons (nm (i := 2)) xa_nil)))) (jb_one (js_if (tNe hr (fRepr hr hg T.b_repr (xe_f (xf_lst (xa_cons (je_callG (ok_family T) (hr.mono (by decide)) hg rfl T.f_family.g T.f_family.F.kp (bn_family T.f_family.F) passB (xa_cons (nm (i := 2)) xa_nil)) (xa_cons (je_callGK (ks := ["piece"]) (pm := [0]) (ok_family T) (hr.mono (by decide)) hg rfl T.f_family.g T.f_family.F.kp (kb_family_piece T.f_family.F) passB (jk_cons (nm (i := 2)) jk_nil)) xa_nil))))) (fRepr hr hg T.b_repr (xe_f (xf_lst (xa_cons (nm (i := 3)) (xa_cons (nm (i := 3)) xa_nil)))))) (jb_one (js_ret cB)) jb_nil))))) (jb_one (js_ret cB)))
theorem nd__law_well : (N__law_well).Nodup := by decide +kernel
theorem sc__law_well : FnScope N__law_well ["script", "spot"] (defScope s__law_well) := ⟨rfl, rfl, rfl, nd__law_well, rfl, by decide +kernel, by decide +kernel⟩
theorem bn__law_well (F : FnP K "_law_well" "_law_well" s__law_well a d) : Binds K d ["script", "spot"] [] := FunD.bindsN F fun _ _ _ _ _ _ us hl => match us, hl with | [_, _], _ => rfl
theorem ok__law_well (T : Tb K mg) : FnG P w K mg base 1 T.f__law_well.a T.f__law_well.d ["script", "spot"] (spM K 2 f__law_well) := okG T.f__law_well.F sc__law_well rfl fun cdv A outer s H E hr hg =>
  (jb_cons (js_set nd__law_well (i := 2) rfl (by first | exact Or.inl rfl | exact Or.inr rfl) (jv_e (bAdd cI (bMul cI (nm (i := 1)))))) (jb_cons (js_for ownB rfl (ji_e (bAdd (je_sl (nm (i := 0)) jo_no (jo_e cI)) (je_sl (nm (i := 0)) (jo_e (nm (i := 1))) (jo_e (bAdd (nm (i := 1)) cI))))) (gN nd__law_well (i := 3)) (pok_nm (i := 3)) (jb_one (js_set nd__law_well (i := 2) rfl (by first | exact Or.inl rfl | exact Or.inr rfl) (jv_e (bMod (fInt T.b_int (bAdd (bAdd (bMul (nm (i := 2)) cI) (nm (i := 3))) cI)) cI))))) (jb_cons (js_set nd__law_well (i := 4) rfl (by first | exact Or.inl rfl | exact Or.inr rfl) (jv_e (je_if (tLt' (nm (i := 1)) (fLen T.b_len (nm (i := 0)))) (sIx (nm (i := 0)) (nm (i := 1))) cI))) (jb_one (js_ret (je_new (xf_lst (xa_cons (nm (i := 2)) (xa_cons cI (xa_cons (je_if (tGe' (fAbs T.b_abs (nm (i := 4))) (bPow cI cI)) (fAbs T.b_abs (nm (i := 4))) cI) xa_nil))))))))))
theorem nd_law : (N_law).Nodup := by decide +kernel
theorem sc_law : FnScope N_law ["script"] (defScope s_law) := ⟨rfl, rfl, rfl, nd_law, rfl, by decide +kernel, by decide +kernel⟩
theorem bn_law (F : FnP K "law" "law" s_law a d) : Binds K d ["script"] [] := FunD.bindsN F fun _ _ _ _ _ _ us hl => match us, hl with | [_], _ => rfl
theorem ok_law (T : Tb K mg) : FnG P w K mg base 8 T.f_law.a T.f_law.d ["script"] (spM K 1 f_law) := okG T.f_law.F sc_law rfl fun cdv A outer s H E hr hg =>
  (jb_one (js_ret (fAll rfl T.b_all (xl_f (jf_lc (own := [("spot", 1)]) rfl nd_law (jc_i (ji_rng1 rfl T.b_range (xa_cons cI xa_nil))) (blkOk_by (own := [("spot", 1)]) (N := N_law) (sc := defScope s_law) (by decide +kernel)) (pok_nm (i := 1)) (fun _ _ _ _ _ => (gN nd_law (i := 1))) (fun _ _ _ _ _ => jts_nil) (fun _ _ _ _ _ => (je_callG (ok__law_right T) (hr.mono (by decide)) hg rfl T.f__law_right.g T.f__law_right.F.kp (bn__law_right T.f__law_right.F) pass00 (xa_cons (je_callG (ok__law_well T) (hr.mono (by decide)) hg rfl T.f__law_well.g T.f__law_well.F.kp (bn__law_well T.f__law_well.F) pass00 (xa_cons (nm (i := 0)) (xa_cons (nm (i := 1)) xa_nil))) xa_nil))) (by decide))))))
end
end Lw

namespace Lw
open PySem PySem.Spec PyProof.Rows L2 Dg
/-! ### the head -/
abbrev LRow : PySem.W.OpenRow := PySem.W.OpenLaw.row PySem.Challenge.rw_degreerows_k30_whole_families_judged
def h__law_draw : He.DefD := ⟨("_law_draw", none), "_law_draw", "_law_draw", defArgs s__law_draw, defBody s__law_draw, defScope s__law_draw, [], []⟩
def h__law_merged : He.DefD := ⟨("_law_merged", none), "_law_merged", "_law_merged", defArgs s__law_merged, defBody s__law_merged, defScope s__law_merged, [], []⟩
def h__law_pick : He.DefD := ⟨("_law_pick", none), "_law_pick", "_law_pick", defArgs s__law_pick, defBody s__law_pick, defScope s__law_pick, [], []⟩
def h__law_bent_lots : He.DefD := ⟨("_law_bent_lots", none), "_law_bent_lots", "_law_bent_lots", defArgs s__law_bent_lots, defBody s__law_bent_lots, defScope s__law_bent_lots, [], []⟩
def h__law_opposite : He.DefD := ⟨("_law_opposite", none), "_law_opposite", "_law_opposite", defArgs s__law_opposite, defBody s__law_opposite, defScope s__law_opposite, [], []⟩
def h__law_places : He.DefD := ⟨("_law_places", none), "_law_places", "_law_places", defArgs s__law_places, defBody s__law_places, defScope s__law_places, [], []⟩
def h__law_read : He.DefD := ⟨("_law_read", none), "_law_read", "_law_read", defArgs s__law_read, defBody s__law_read, defScope s__law_read, [], []⟩
def h__law_great : He.DefD := ⟨("_law_great", none), "_law_great", "_law_great", defArgs s__law_great, defBody s__law_great, defScope s__law_great, [], []⟩
def h__law_size : He.DefD := ⟨("_law_size", none), "_law_size", "_law_size", defArgs s__law_size, defBody s__law_size, defScope s__law_size, [], []⟩
def h__law_halves : He.DefD := ⟨("_law_halves", none), "_law_halves", "_law_halves", defArgs s__law_halves, defBody s__law_halves, defScope s__law_halves, [], []⟩
def h__law_most : He.DefD := ⟨("_law_most", none), "_law_most", "_law_most", defArgs s__law_most, defBody s__law_most, defScope s__law_most, [], []⟩
def h__law_rest : He.DefD := ⟨("_law_rest", none), "_law_rest", "_law_rest", defArgs s__law_rest, defBody s__law_rest, defScope s__law_rest, [], []⟩
def h__law_any_piece : He.DefD := ⟨("_law_any_piece", none), "_law_any_piece", "_law_any_piece", defArgs s__law_any_piece, defBody s__law_any_piece, defScope s__law_any_piece, [], []⟩
def h__law_ends : He.DefD := ⟨("_law_ends", none), "_law_ends", "_law_ends", defArgs s__law_ends, defBody s__law_ends, defScope s__law_ends, [], []⟩
def h__law_are_halves : He.DefD := ⟨("_law_are_halves", none), "_law_are_halves", "_law_are_halves", defArgs s__law_are_halves, defBody s__law_are_halves, defScope s__law_are_halves, [], []⟩
def h__law_is_rest : He.DefD := ⟨("_law_is_rest", none), "_law_is_rest", "_law_is_rest", defArgs s__law_is_rest, defBody s__law_is_rest, defScope s__law_is_rest, [], []⟩
def h__law_family : He.DefD := ⟨("_law_family", none), "_law_family", "_law_family", defArgs s__law_family, defBody s__law_family, defScope s__law_family, [], []⟩
def h_places_of : He.DefD := ⟨("places_of", none), "places_of", "places_of", defArgs s_places_of, defBody s_places_of, defScope s_places_of, [], []⟩
def h_turned_about : He.DefD := ⟨("turned_about", none), "turned_about", "turned_about", defArgs s_turned_about, defBody s_turned_about, defScope s_turned_about, [], []⟩
def h_halves_read : He.DefD := ⟨("halves_read", none), "halves_read", "halves_read", defArgs s_halves_read, defBody s_halves_read, defScope s_halves_read, [], []⟩
def h_ends_of : He.DefD := ⟨("ends_of", none), "ends_of", "ends_of", defArgs s_ends_of, defBody s_ends_of, defScope s_ends_of, [], []⟩
def h_single_besides : He.DefD := ⟨("single_besides", none), "single_besides", "single_besides", defArgs s_single_besides, defBody s_single_besides, defScope s_single_besides, [], []⟩
def h_is_bridge : He.DefD := ⟨("is_bridge", none), "is_bridge", "is_bridge", defArgs s_is_bridge, defBody s_is_bridge, defScope s_is_bridge, [], []⟩
def h_is_crown : He.DefD := ⟨("is_crown", none), "is_crown", "is_crown", defArgs s_is_crown, defBody s_is_crown, defScope s_is_crown, [], []⟩
def h_is_halves_of : He.DefD := ⟨("is_halves_of", none), "is_halves_of", "is_halves_of", defArgs s_is_halves_of, defBody s_is_halves_of, defScope s_is_halves_of, [], []⟩
def h_is_rest_of : He.DefD := ⟨("is_rest_of", none), "is_rest_of", "is_rest_of", defArgs s_is_rest_of, defBody s_is_rest_of, defScope s_is_rest_of, [], []⟩
def h_rest_read : He.DefD := ⟨("rest_read", none), "rest_read", "rest_read", defArgs s_rest_read, defBody s_rest_read, defScope s_rest_read, [], []⟩
def h_family_of : He.DefD := ⟨("family_of", none), "family_of", "family_of", defArgs s_family_of, defBody s_family_of, defScope s_family_of, [], []⟩
def h_is_integer : He.DefD := ⟨("is_integer", none), "is_integer", "is_integer", defArgs s_is_integer, defBody s_is_integer, defScope s_is_integer, [], []⟩
def h_is_count : He.DefD := ⟨("is_count", none), "is_count", "is_count", defArgs s_is_count, defBody s_is_count, defScope s_is_count, [], []⟩
def h_is_kind : He.DefD := ⟨("is_kind", none), "is_kind", "is_kind", defArgs s_is_kind, defBody s_is_kind, defScope s_is_kind, [], []⟩
def h_wrong_kind : He.DefD := ⟨("wrong_kind", none), "wrong_kind", "wrong_kind", defArgs s_wrong_kind, defBody s_wrong_kind, defScope s_wrong_kind, [], []⟩
def h_is_piece : He.DefD := ⟨("is_piece", none), "is_piece", "is_piece", defArgs s_is_piece, defBody s_is_piece, defScope s_is_piece, [], []⟩
def h_family : He.DefD := ⟨("family", none), "family", "family", defArgs s_family, defBody s_family, defScope s_family, [], []⟩
def h__law_right : He.DefD := ⟨("_law_right", none), "_law_right", "_law_right", defArgs s__law_right, defBody s__law_right, defScope s__law_right, [], []⟩
def h__law_well : He.DefD := ⟨("_law_well", none), "_law_well", "_law_well", defArgs s__law_well, defBody s__law_well, defScope s__law_well, [], []⟩
def h_law : He.DefD := ⟨("law", none), "law", "law", defArgs s_law, defBody s_law, defScope s_law, [], []⟩
def fn : List He.DefD := [h__law_draw, h__law_merged, h__law_pick, h__law_bent_lots, h__law_opposite, h__law_places, h__law_read, h__law_great, h__law_size, h__law_halves, h__law_most, h__law_rest, h__law_any_piece, h__law_ends, h__law_are_halves, h__law_is_rest, h__law_family, h_places_of, h_turned_about, h_halves_read, h_ends_of, h_single_besides, h_is_bridge, h_is_crown, h_is_halves_of, h_is_rest_of, h_rest_read, h_family_of, h_is_integer, h_is_count, h_is_kind, h_wrong_kind, h_is_piece, h_family, h__law_right, h__law_well, h_law]
def faG : List He.Fa := [.glo "_law_draw", .glo "_law_merged", .glo "_law_pick", .glo "_law_bent_lots", .glo "_law_opposite", .glo "_law_places", .glo "_law_read", .glo "_law_great", .glo "_law_size", .glo "_law_halves", .glo "_law_most", .glo "_law_rest", .glo "_law_any_piece", .glo "_law_ends", .glo "_law_are_halves", .glo "_law_is_rest", .glo "_law_family", .glo "places_of", .glo "turned_about", .glo "halves_read", .glo "ends_of", .glo "single_besides", .glo "is_bridge", .glo "is_crown", .glo "is_halves_of", .glo "is_rest_of", .glo "rest_read", .glo "family_of", .glo "is_integer", .glo "is_count", .glo "is_kind", .glo "wrong_kind", .glo "is_piece", .glo "family", .glo "_law_right", .glo "_law_well", .glo "law"]
def faT : List He.Fa := [.glo "HALVES", .glo "READINGS", .glo "RESTS"]
def faB : List He.Fa := [.free "abs", .free "all", .free "bool", .free "divmod", .free "enumerate", .free "int", .free "isinstance", .free "len", .free "list", .free "max", .free "range", .free "repr", .free "sorted", .free "str", .free "sum", .free "tuple"]
def faI : List He.Fa := [.int "MOST_COUNT" 1000000000000000000000000000000, .int "MOST_DEGREE" 10000000000000000000000000000000, .int "MOST_KINDS" 10]
def faS : List He.Fa := []
def fa : List He.Fa := faG ++ (faT ++ (faB ++ (faI ++ faS)))
def v_HALVES : List He.Dv := [.str "stars", .str "bridge", .str "crown"]
def v_READINGS : List He.Dv := [.str "plain", .str "exchanged", .str "opposite", .str "turned"]
def v_RESTS : List He.Dv := [.str "ring", .str "pairs", .str "star", .str "hub"]
def ex (K : PySem.W.Frag) : Bool := He.tupB K "HALVES" v_HALVES && He.tupB K "READINGS" v_READINGS && He.tupB K "RESTS" v_RESTS
abbrev hk : PySem.W.Hook := He.hookX 4 fa fn [] [] ex
def ob (s : PySem.W.SharedT) : He.AlX := He.obsX 4 fa fn [] [] ex (HandSHeadRun.getT s)
theorem ob_eq (s : PySem.W.SharedT) : ob s = hk.obs s.abs := He.obsX_eq (HandSHeadRun.getT_eq s)
def loose : List PySem.Str := (["WrongValue", "InvalidPiece", "MOST_KINDS", "MOST_DEGREE", "MOST_COUNT", "is_integer", "is_count", "is_kind", "wrong_kind", "places_of", "ends_of", "turned_about", "RESTS", "HALVES", "READINGS", "is_rest_of", "single_besides", "is_bridge", "is_crown", "is_halves_of", "rest_read", "halves_read", "family_of", "is_piece", "family", "_law_well", "_law_draw", "_law_pick", "_law_great", "_law_places"] : List PySem.Str) ++ (["_law_ends", "_law_merged", "_law_opposite", "_law_size", "_law_rest", "_law_read", "_law_halves", "_law_is_rest", "_law_are_halves", "_law_family", "_law_bent_lots", "_law_any_piece", "_law_most", "_law_right"] : List PySem.Str)
theorem run (w : World) : HandSHeadRun.RunEq LRow (PySem.W.view LRow.prog [49]) hk ob 2000 loose w := by
  intro os
  kernel_rfl
end Lw

namespace Dg
open PySem PySem.Spec PyProof.Rows L2
/-! ### the mirrors, worked out -/
section
variable {α β : Type} {env : Ev} {S : Sto} {i j k n : Nat}
@[simp] theorem bind_ok {a : α} {f : α → Sto → Out β} : (Out.ok a S).bind f = f a S := rfl
@[simp] theorem bind_bad {f : α → Sto → Out β} : (Out.bad : Out α).bind f = .bad := rfl
@[simp] theorem bind_rs {x : Ex} {f : α → Sto → Out β} : (Out.raise x S : Out α).bind f = .raise x S := rfl
@[simp] theorem ofO_some {a : α} : ofO (some a) S = .ok a S := rfl
@[simp] theorem ofO_none : ofO (none : Option α) S = .bad := rfl
@[simp] theorem ifO_t {o : Out α} : ifO true o = o := rfl
@[simp] theorem ifO_f {o : Out α} : ifO false o = .bad := rfl
@[simp] theorem noR_ok {a : α} : noR (.ok a S) = .ok a S := rfl
@[simp] theorem valS_val {d : D} : valS (some (.val d)) = some d := rfl
@[simp] theorem liveS_live {o : MObj} : liveS (some (.live o)) = some o := rfl
@[simp] theorem liveL_live {ds : List D} : liveL (some (.live (.lst ds))) = some (true, ds) := rfl
@[simp] theorem liveK_live {ds : List (Key × D)} : liveK (some (.live (.dK ds))) = some ds := rfl
@[simp] theorem ev_var : eVar i env S = ofO (valS env[i]?) S := rfl
@[simp] theorem ev_lvar : lVar i env S = ofO (liveL env[i]?) S := rfl
@[simp] theorem ev_dvar : dVar i env S = ofO (liveK env[i]?) S := rfl
@[simp] theorem ev_ret {d : D} : eRet d env S = .ok d S := rfl
variable {a b c : EM} {r : AM} {t u : TM} {l : LM} {f g : D → D → Option D} {h : D → Option D}
@[simp] theorem ev_op : eOp f a b env S = (a env S).bind fun x S1 => (b env S1).bind fun y S2 => ofO (f x y) S2 := rfl
@[simp] theorem ev_ops {f : Sto → D → D → Option D} : eOpS f a b env S = (a env S).bind fun x S1 => (b env S1).bind fun y S2 => ofO (f S2 x y) S2 := rfl
@[simp] theorem ev_un : eUn h a env S = (a env S).bind fun x S1 => ofO (h x) S1 := rfl
@[simp] theorem ev_anil : aNil env S = .ok [] S := rfl
@[simp] theorem ev_acons : aCons a r env S = (a env S).bind fun x S1 => (r env S1).bind fun xs S2 => .ok (x :: xs) S2 := rfl
@[simp] theorem ev_tup : eTup r env S = (r env S).bind fun xs S1 => ifO (fits xs.length) (.ok (.tup xs) S1) := rfl
@[simp] theorem ev_flst : fLst r env S = (r env S).bind fun xs S1 => ifO (fits xs.length) (.ok xs S1) := rfl
@[simp] theorem ev_ef : eF r env S = (r env S).bind fun xs S1 => .ok (.lst xs) S1 := rfl
@[simp] theorem ev_new : eNew r env S = (r env S).bind fun xs S1 => .ok (.hnd S1.length) (S1 ++ [.lst xs]) := rfl
@[simp] theorem ev_lf : lF r env S = (r env S).bind fun xs S1 => .ok (true, xs) S1 := rfl
@[simp] theorem ev_le : lE a env S = (a env S).bind fun x S1 => ofO (seqD x) S1 := rfl
@[simp] theorem ev_inl {neg : Bool} : eInL neg a l env S = (a env S).bind fun x S1 => (l env S1).bind fun q S2 => ofO (inD0 neg x q) S2 := rfl
@[simp] theorem ev_tofe : tOfE a env S = (a env S).bind fun d S1 => ofO (blD d) S1 := rfl
@[simp] theorem blD_bl {x : Bool} : blD (.bl x) = some x := rfl
@[simp] theorem ev_tys : tYs env S = .ok true S := rfl
theorem mt_if {γ : Type} {x : Bool} {p q : γ} : (match x with | true => p | false => q) = if x = true then p else q := by cases x <;> rfl
@[simp] theorem ev_mand : mAnd t u env S = (t env S).bind fun x S1 => if x = true then u env S1 else .ok false S1 := by
  unfold mAnd
  congr
  funext x S1
  cases x <;> rfl
@[simp] theorem ev_mor : mOr t u env S = (t env S).bind fun x S1 => if x = true then .ok true S1 else u env S1 := by
  unfold mOr
  congr
  funext x S1
  cases x <;> rfl
@[simp] theorem ev_mnot : mNot t env S = (t env S).bind fun x S1 => .ok (!x) S1 := rfl
@[simp] theorem ev_eif : eIf t a b env S = (t env S).bind fun x S1 => if x = true then a env S1 else b env S1 := by
  unfold eIf
  congr
  funext x S1
  cases x <;> rfl
def thenB (d : D) (p q : Out D) : Out D := match d with | .bl true => p | .bl false => q | _ => .bad
@[simp] theorem thenB_bl {x : Bool} {p q : Out D} : thenB (.bl x) p q = if x = true then p else q := by cases x <;> rfl
@[simp high] theorem thenB_and {x y : Bool} : thenB (.bl x) (.ok (.bl y) S) (.ok (.bl false) S) = .ok (.bl (x && y)) S := by cases x <;> rfl
@[simp high] theorem thenB_or {x y : Bool} : thenB (.bl x) (.ok (.bl true) S) (.ok (.bl y) S) = .ok (.bl (x || y)) S := by cases x <;> rfl
@[simp high] theorem ite_and {x y : Bool} : (if x = true then Out.ok y S else Out.ok false S) = .ok (x && y) S := by cases x <;> rfl
@[simp high] theorem ite_or {x y : Bool} : (if x = true then Out.ok true S else Out.ok y S) = .ok (x || y) S := by cases x <;> rfl
@[simp] theorem ev_eand : eAnd a b env S = (a env S).bind fun d S1 => thenB d (b env S1) (.ok (.bl false) S1) := by
  unfold eAnd
  congr
  funext d S1
  cases d <;> first | rfl | (rename_i x; cases x <;> rfl)
@[simp] theorem ev_eor : eOr a b env S = (a env S).bind fun d S1 => thenB d (.ok (.bl true) S1) (b env S1) := by
  unfold eOr
  congr
  funext d S1
  cases d <;> first | rfl | (rename_i x; cases x <;> rfl)
@[simp] theorem notD_bl {x : Bool} : notD (.bl x) = some (.bl !x) := rfl
def chD (o : Option D) (S : Sto) (p : Out D) : Out D := match o with | some (.bl true) => p | some (.bl false) => .ok (.bl false) S | _ => .bad
@[simp] theorem chD_bl {x : Bool} {p : Out D} : chD (some (.bl x)) S p = if x = true then p else .ok (.bl false) S := by cases x <;> rfl
@[simp high] theorem chD_and {x y : Bool} : chD (some (.bl x)) S (.ok (.bl y) S) = .ok (.bl (x && y)) S := by cases x <;> rfl
@[simp] theorem ev_chain : eChain f g a b c env S = (a env S).bind fun x S1 => (b env S1).bind fun y S2 => chD (f x y) S2 ((c env S2).bind fun z S3 => ofO (g y z) S3) := by
  unfold eChain
  congr
@[simp] theorem ev_cb {f : List D → Option D} : eCB f r env S = (r env S).bind fun ds S1 => ofO (f ds) S1 := rfl
@[simp] theorem ev_cl {f : Bool × List D → Option D} : eCL f l env S = (l env S).bind fun q S1 => ofO (f q) S1 := rfl
@[simp] theorem ev_call {f : List D → Sto → Out D} : eCall n f r env S = (r env S).bind fun ds S1 => ifO (ds.length == n) (f ds S1) := rfl
@[simp] theorem ev_callK {pm : List Nat} {f : List D → Sto → Out D} : eCallK n j pm f r env S = (r env S).bind fun ds S1 => ifO (decide (ds.length = j) && decide ((permL pm ds).length = n)) (f (permL pm ds) S1) := rfl
@[simp] theorem ev_items : aItems a env S = (a env S).bind fun d S1 => ofO (itemsD d) S1 := rfl
@[simp] theorem ev_itemsL : aItemsL l env S = (l env S).bind fun q S1 => ifO q.1 (.ok q.2 S1) := rfl
@[simp] theorem ev_rng {f : List D → Option (List D)} : aRng f r env S = (r env S).bind fun ds S1 => ofO (f ds) S1 := rfl
@[simp] theorem ev_enum : aEnum a env S = (a env S).bind fun d S1 => (ofO (itemsD d) S1).bind fun ds S2 => .ok (enumL ds) S2 := rfl
@[simp] theorem ev_lc {p : PM} {vs : List Nat} : fLc r p t a vs env S = (r env S).bind fun ds S1 => (noR (lcLoop p t a vs ds env S1)).bind fun ys S2 => ifO (fits ys.length) (.ok ys S2) := rfl
variable {ol oh : OM}
@[simp] theorem ev_ono : oNo env S = .ok none S := rfl
@[simp] theorem ev_oe : oE a env S = (a env S).bind fun d S1 => (ofO (intOf d) S1).bind fun i S2 => .ok (some i) S2 := rfl
@[simp] theorem intOf_int {z : Int} : intOf (.int z) = some z := rfl
@[simp] theorem ev_sl : eSl a ol oh env S = (a env S).bind fun x S1 => (ol env S1).bind fun lo S2 => (oh env S2).bind fun hi S3 => ofO (sliceD lo hi x) S3 := rfl
@[simp] theorem ev_slL : fSlL l ol oh env S = (l env S).bind fun x S1 => (ol env S1).bind fun lo S2 => (oh env S2).bind fun hi S3 => ifO x.1 (.ok (cutL x.2 lo hi) S3) := rfl
@[simp] theorem ev_ixl : eIxL l b env S = (l env S).bind fun x S1 => (b env S1).bind fun i S2 => (ofO (intOf i) S2).bind fun j S3 => ifO x.1 (ofO (atI x.2 j) S3) := rfl
variable {dm : DM}
@[simp] theorem ev_dget : eDget dm a env S = (dm env S).bind fun kvs S1 => (a env S1).bind fun x S2 => (ofO (keyD x) S2).bind fun y S3 => ofO (valD kvs y) S3 := rfl
@[simp] theorem ev_dget2 : eDget2 dm a b env S = (dm env S).bind fun kvs S1 => (a env S1).bind fun kx S2 => (b env S2).bind fun z S3 => (ofO (keyD kx) S3).bind fun y S4 => .ok ((valD kvs y).getD z) S4 := rfl
@[simp] theorem ev_sortD {x : Bool} : fSortD dm x env S = (dm env S).bind fun kvs S1 => (ofO (intKeys kvs) S1).bind fun ks S2 => .ok ((if x = true then (sortI ks).reverse else sortI ks).map D.int) S2 := rfl
@[simp] theorem ev_sortL {x : Bool} : fSortL l x env S = (l env S).bind fun q S1 => (ofO (intsD q.2) S1).bind fun ks S2 => ifO q.1 (.ok ((if x = true then (sortI ks).reverse else sortI ks).map D.int) S2) := rfl
/-! statements -/
def thenS {α : Type} (o : Out α) (env : Ev) (k : α → Sto → So) : So := match o with
  | .ok a S => k a S
  | .raise x S => .rs x env S
  | .bad => .bad
@[simp] theorem thenS_ok {a : α} {k : α → Sto → So} : thenS (.ok a S) env k = k a S := rfl
@[simp] theorem thenS_rs {x : Ex} {k : α → Sto → So} : thenS (.raise x S) env k = .rs x env S := rfl
@[simp] theorem sv_bind {m : Ev → Sto → Out α} {k : α → SM} : sBind m k env S = thenS (m env S) env fun x S1 => k x env S1 := by
  unfold sBind thenS
  cases m env S <;> rfl
def seqS (o : So) (k : Ev → Sto → So) : So := match o with
  | .nx env S => k env S
  | o => o
@[simp] theorem seqS_nx {k : Ev → Sto → So} : seqS (.nx env S) k = k env S := rfl
@[simp] theorem seqS_rt {d : D} {k : Ev → Sto → So} : seqS (.rt d S) k = .rt d S := rfl
@[simp] theorem seqS_rs {x : Ex} {k : Ev → Sto → So} : seqS (.rs x env S) k = .rs x env S := rfl
@[simp] theorem seqS_bk {k : Ev → Sto → So} : seqS (.bk env S) k = .bk env S := rfl
@[simp] theorem seqS_ct {k : Ev → Sto → So} : seqS (.ct env S) k = .ct env S := rfl
theorem seqS_if {p : Prop} [Decidable p] {x y : So} {k : Ev → Sto → So} : seqS (if p then x else y) k = if p then seqS x k else seqS y k := by split <;> rfl
variable {m m1 m2 : SM}
@[simp] theorem sv_seq : sSeq m1 m2 env S = seqS (m1 env S) m2 := by
  unfold sSeq seqS
  cases m1 env S <;> rfl
@[simp] theorem sv_skip : sSkip env S = .nx env S := rfl
@[simp] theorem sv_brk : sBrk env S = .bk env S := rfl
@[simp] theorem sv_cnt : sCnt env S = .ct env S := rfl
@[simp] theorem sv_retN : sRetN env S = .rt .non S := rfl
@[simp] theorem sv_no : sNo env S = .bad := rfl
@[simp] theorem sv_ret : sRet a env S = thenS (a env S) env fun d S1 => .rt d S1 := by unfold sRet; rw [sv_bind]
@[simp] theorem sv_drop : sDrop a env S = thenS (a env S) env fun d S1 => .nx env S1 := by unfold sDrop; rw [sv_bind]
@[simp] theorem sv_if : sIf t m1 m2 env S = thenS (t env S) env fun x S1 => if x = true then m1 env S1 else m2 env S1 := by
  unfold sIf
  rw [sv_bind]
  congr
  funext x S1
  cases x <;> rfl
@[simp] theorem ofS_some {e : Ev} : ofS (some e) S = .nx e S := rfl
@[simp] theorem ofS2_some {q : Ev × Sto} : ofS2 (some q) = .nx q.1 q.2 := rfl
@[simp] theorem sv_set {mv : LSM} : sSet i mv env S = thenS (mv env S) env fun s S1 => ofS (setS i s env) S1 := by unfold sSet; rw [sv_bind]
@[simp] theorem sv_pat {p : PM} : sPat p a env S = thenS (a env S) env fun d S1 => ofS (p d env) S1 := by unfold sPat; rw [sv_bind]
@[simp] theorem sv_pat2 {p : PM2} : sPat2 p a env S = thenS (a env S) env fun d S1 => ofS2 (p d env S1) := by unfold sPat2; rw [sv_bind]
@[simp] theorem sv_par3 : sPar3 i j k r env S = thenS (r env S) env fun ds S1 => match ds with | [x, y, z] => ofS (((setS i (.val x) env).bind (setS j (.val y))).bind (setS k (.val z))) S1 | _ => .bad := by
  unfold sPar3
  rw [sv_bind]
  try congr
@[simp] theorem sv_for {p : PM} : sFor r p m env S = thenS (r env S) env fun ds S1 => forLoop p m ds env S1 := by unfold sFor; rw [sv_bind]
@[simp] theorem ev_vE : vE a env S = (a env S).bind fun d S1 => .ok (.val d) S1 := rfl
@[simp] theorem ev_vF : vF r env S = (r env S).bind fun d S1 => .ok (.live (.lst d)) S1 := rfl
@[simp] theorem ev_vD : vDnew env S = .ok (.live (.dK [])) S := rfl
@[simp] theorem ev_lvnil : lvNil env S = .ok [] S := rfl
@[simp] theorem ev_lvcons {x : LSM} {y : LSsM} : lvCons x y env S = (x env S).bind fun p S1 => (y env S1).bind fun q S2 => .ok (p :: q) S2 := rfl
@[simp] theorem set2_two {s t : Slot} : set2 i j [s, t] env = (setS i s env).bind fun e1 => setS j t e1 := rfl
@[simp] theorem sv_retL : sRetL i env S = match (liveS env[i]?).bind pubD with | some d => .rt d S | none => .bad := rfl
@[simp] theorem pubD_lst {ds : List D} : pubD (.lst ds) = some (.lst ds) := rfl
@[simp] theorem retO_nx : retO (.nx env S) = .ok .non S := rfl
@[simp] theorem retO_rt {d : D} : retO (.rt d S) = .ok d S := rfl
@[simp] theorem retO_rs {x : Ex} : retO (.rs x env S) = .raise x S := rfl
theorem retO_if {p : Prop} [Decidable p] {x y : So} : retO (if p then x else y) = if p then retO x else retO y := by split <;> rfl
/-! patterns -/
@[simp] theorem pv_nm {d : D} : pNm i d env = setV i d env := rfl
@[simp] theorem pv_nil : psNil [] env = some env := rfl
@[simp] theorem pv_cons {p : PM} {q : PMs} {d : D} {ds : List D} : psCons p q (d :: ds) env = (p d env).bind fun e => q ds e := by
  show (match p d env with | some env1 => q ds env1 | none => none) = _
  cases p d env <;> rfl
@[simp] theorem pv_tp {q : PMs} {ds : List D} : pTp q n (.tup ds) env = if ds.length = n then q ds env else none := rfl
@[simp] theorem pv_tpA {q : PMs} {ds : List D} : pTpA q n (.tup ds) env = if ds.length = n then q ds env else none := rfl
@[simp] theorem pv_tpL {q : PMs} {ds : List D} : pTpA q n (.lst ds) env = if ds.length = n then q ds env else none := rfl
@[simp] theorem p2v_o {p : PM} {d : D} : p2O p d env S = (p d env).map fun e => (e, S) := rfl
@[simp] theorem p2v_nil : p2Nil [] env S = some (env, S) := rfl
@[simp] theorem p2v_cons {p : PM2} {q : PM2s} {d : D} {ds : List D} : p2Cons p q (d :: ds) env S = (p d env S).bind fun e => q ds e.1 e.2 := rfl
@[simp] theorem p2v_tp {q : PM2s} {ds : List D} : p2Tp q n (.tup ds) env S = if ds.length = n then q ds env S else none := rfl
/-! slots -/
@[simp] theorem setS_zero {s x : Slot} {xs : Ev} : setS 0 s (x :: xs) = some (s :: xs) := by unfold setS; simp
@[simp] theorem setS_succ {s x : Slot} {xs : Ev} : setS (i + 1) s (x :: xs) = (setS i s xs).map (x :: ·) := by
  unfold setS
  by_cases h : i < xs.length
  · rw [if_pos h, if_pos (by simpa using h)]; rfl
  · rw [if_neg h, if_neg (by simpa using h)]; rfl
@[simp] theorem setV_eq {d : D} : setV i d env = setS i (.val d) env := rfl
theorem runM_eq {ds : List D} : runM n m ds S = retO (m (ds.map Slot.val ++ List.replicate (n - ds.length) Slot.no) S) := rfl
/-! operators -/
@[simp] theorem addD_int {x y : Int} : addD (.int x) (.int y) = some (.int (x + y)) := rfl
theorem addL_ok {a b : List D} (h : a.length + b.length ≤ 16777216) : addD (.lst a) (.lst b) = some (.lst (a ++ b)) := by
  show (if fits (a.length + b.length) = true then some (D.lst (a ++ b)) else none) = _
  rw [if_pos (show fits (a.length + b.length) = true from decide_eq_true h)]
theorem addT_ok {a b : List D} (h : a.length + b.length ≤ 16777216) : addD (.tup a) (.tup b) = some (.tup (a ++ b)) := by
  show (if fits (a.length + b.length) = true then some (D.tup (a ++ b)) else none) = _
  rw [if_pos (show fits (a.length + b.length) = true from decide_eq_true h)]
@[simp] theorem subD_int {x y : Int} : subD (.int x) (.int y) = some (.int (x - y)) := rfl
@[simp] theorem ltD_int {x y : Int} : ltD (.int x) (.int y) = some (.bl (decide (x < y))) := rfl
@[simp] theorem leD_int {x y : Int} : leD (.int x) (.int y) = some (.bl (decide (x ≤ y))) := rfl
@[simp] theorem gtD_int {x y : Int} : gtD (.int x) (.int y) = some (.bl (decide (y < x))) := rfl
@[simp] theorem geD_int {x y : Int} : geD (.int x) (.int y) = some (.bl (decide (y ≤ x))) := rfl
@[simp] theorem negD_int {x : Int} : negD (.int x) = some (.int (-x)) := rfl
@[simp] theorem mulD_int {x y : Int} : mulD (.int x) (.int y) = if mulOk x y = true then some (.int (x * y)) else none := rfl
@[simp] theorem divD_int {x y : Int} : divD (.int x) (.int y) = if (decide (0 < y) && decide (y < 1073741824)) = true then some (.int (x / y)) else none := rfl
@[simp] theorem modD_int {x y : Int} : modD (.int x) (.int y) = if decide (0 < y) = true then some (.int (x % y)) else none := rfl
theorem mulOk_l {x y : Int} (h : -(2 ^ 64) < x ∧ x < 2 ^ 64) : mulOk x y = true := by
  unfold mulOk small64
  rw [decide_eq_true h.1, decide_eq_true h.2]
  rfl
theorem mulOk_r {x y : Int} (h : -(2 ^ 64) < y ∧ y < 2 ^ 64) : mulOk x y = true := by
  unfold mulOk small64
  rw [decide_eq_true h.1, decide_eq_true h.2]
  simp
theorem mulOk_w {x y : Int} (h : x.natAbs < 2 ^ 4000) (h2 : y.natAbs < 2 ^ 4000) : mulOk x y = true := by
  unfold mulOk wideB
  rw [decide_eq_true h, decide_eq_true h2]
  simp
theorem mulD_ok {x y : Int} (h : mulOk x y = true) : mulD (.int x) (.int y) = some (.int (x * y)) := by simp [h]
@[simp] theorem len_tup {ds : List D} : lenD [.tup ds] = some (.int ds.length) := rfl
@[simp] theorem len_lst {ds : List D} : lenD [.lst ds] = some (.int ds.length) := rfl
@[simp] theorem len_scr {ds : List D} : lenD [.scr ds] = some (.int ds.length) := rfl
@[simp] theorem lenL_eq {q : Bool × List D} : lenL q = some (.int q.2.length) := rfl
@[simp] theorem seqD_tup {ds : List D} : seqD (.tup ds) = some (false, ds) := rfl
@[simp] theorem seqD_lst {ds : List D} : seqD (.lst ds) = some (true, ds) := rfl
@[simp] theorem seqD_scr {ds : List D} : seqD (.scr ds) = some (true, ds) := rfl
@[simp] theorem itemsD_tup {ds : List D} : itemsD (.tup ds) = some ds := rfl
@[simp] theorem itemsD_lst {ds : List D} : itemsD (.lst ds) = some ds := rfl
@[simp] theorem itemsD_scr {ds : List D} : itemsD (.scr ds) = some ds := rfl
@[simp] theorem listOfL_eq {q : Bool × List D} : listOfL q = some (.lst q.2) := rfl
@[simp] theorem tupleOf_lst {ds : List D} : tupleOfD [.lst ds] = some (.tup ds) := rfl
@[simp] theorem tupleOf_tup {ds : List D} : tupleOfD [.tup ds] = some (.tup ds) := rfl
@[simp] theorem tupleOfLL_eq {ds : List D} : tupleOfLL (true, ds) = some (.tup ds) := rfl
@[simp] theorem revD_lst {ds : List D} : revD (.lst ds) = some (.lst ds.reverse) := rfl
@[simp] theorem revD_tup {ds : List D} : revD (.tup ds) = some (.tup ds.reverse) := rfl
@[simp] theorem isN_non : isN .non = some (.bl true) := rfl
@[simp] theorem isN_tup {ds : List D} : isN (.tup ds) = some (.bl false) := rfl
@[simp] theorem isN_lst {ds : List D} : isN (.lst ds) = some (.bl false) := rfl
@[simp] theorem isN_int {x : Int} : isN (.int x) = some (.bl false) := rfl
@[simp] theorem notN_non : notN .non = some (.bl false) := rfl
@[simp] theorem notN_tup {ds : List D} : notN (.tup ds) = some (.bl true) := rfl
@[simp] theorem notN_lst {ds : List D} : notN (.lst ds) = some (.bl true) := rfl
@[simp] theorem notN_int {x : Int} : notN (.int x) = some (.bl true) := rfl
@[simp] theorem ixS_tup {ds : List D} {x : Int} : ixS S (.tup ds) (.int x) = atI ds x := rfl
@[simp] theorem ixS_lst {ds : List D} {x : Int} : ixS S (.lst ds) (.int x) = atI ds x := rfl
@[simp] theorem ixS_scr {ds : List D} {x : Int} : ixS S (.scr ds) (.int x) = atI ds x := rfl
@[simp] theorem ixS_hnd {x : Int} : ixS S (.hnd k) (.int x) = (stoL S k).bind fun ds => atI ds x := rfl
@[simp] theorem int1_int {x : Int} : int1D [.int x] = some (.int x) := rfl
@[simp] theorem abs_int {x : Int} : absD [.int x] = some (.int (if x < 0 then -x else x)) := rfl
@[simp] theorem max2_int {x y : Int} : max2D [.int x, .int y] = some (.int (if y > x then y else x)) := rfl
@[simp] theorem min2_int {x y : Int} : min2D [.int x, .int y] = some (.int (if y < x then y else x)) := rfl
@[simp] theorem divmod_int {x y : Int} : divmodD [.int x, .int y] = if (decide (0 < y) && decide (y < 1073741824)) = true then some (.tup [.int (x / y), .int (x % y)]) else none := rfl
@[simp] theorem rngD1_int {x : Int} : rngD1 [.int x] = if rngB x = true then some ((List.range x.toNat).map fun i => .int ((i : Nat) : Int)) else none := rfl
theorem rngB_of {x : Int} (h : -(2 ^ 62) ≤ x) (h2 : x < 2 ^ 62) : rngB x = true := by
  unfold rngB
  rw [decide_eq_true h, decide_eq_true h2]
  rfl
@[simp] theorem sliceD_tup {lo hi : Option Int} {ds : List D} : sliceD lo hi (.tup ds) = some (.tup (cutL ds lo hi)) := rfl
@[simp] theorem sliceD_lst {lo hi : Option Int} {ds : List D} : sliceD lo hi (.lst ds) = some (.lst (cutL ds lo hi)) := rfl
@[simp] theorem sliceD_scr {lo hi : Option Int} {ds : List D} : sliceD lo hi (.scr ds) = some (.lst (cutL ds lo hi)) := rfl
@[simp] theorem fits_def : fits n = decide (n ≤ 16777216) := rfl
theorem fits_of (h : n ≤ 16777216) : fits n = true := decide_eq_true h
@[simp] theorem keyD_int {x : Int} : keyD (.int x) = some (.inl x) := rfl
/-! at a place -/
theorem atI_nat {xs : List α} {z : Int} (h : 0 ≤ z) : atI xs z = xs[z.toNat]? := by
  unfold atI ixN
  rw [if_pos h]
  by_cases q : z < xs.length
  · rw [if_pos q]; rfl
  · rw [if_neg q]
    have : xs.length ≤ z.toNat := by omega
    rw [List.getElem?_eq_none this]
    rfl
@[simp] theorem atI_0 {xs : List α} : atI xs 0 = xs[0]? := atI_nat (by decide)
@[simp] theorem atI_1 {xs : List α} : atI xs 1 = xs[1]? := atI_nat (by decide)
@[simp] theorem atI_2 {xs : List α} : atI xs 2 = xs[2]? := atI_nat (by decide)
@[simp] theorem atI_3 {xs : List α} : atI xs 3 = xs[3]? := atI_nat (by decide)
@[simp] theorem atI_m1 {xs : List α} : atI xs (-1) = xs.getLast? := by
  unfold atI ixN
  rw [if_neg (by decide)]
  by_cases q : (-(xs.length : Int)) ≤ -1
  · rw [if_pos q, List.getLast?_eq_getElem?]
    have e : (-1 + (xs.length : Int)).toNat = xs.length - 1 := by omega
    rw [e]
    rfl
  · rw [if_neg q]
    have : xs.length = 0 := by omega
    rw [List.length_eq_zero_iff.mp this]
    rfl
/-! loops -/
theorem lc_filter {γ : Type} {p : PM} {vs : List Nat} {enc : γ → D} {cc : γ → Bool} {gg : γ → D} : ∀ {xs : List γ}, (∀ x ∈ xs, ∃ e1, p (enc x) (wipeE env vs) = some e1 ∧ t e1 S = .ok (cc x) S ∧ (cc x = true → a e1 S = .ok (gg x) S)) →
    lcLoop p t a vs (xs.map enc) env S = .ok ((xs.filter cc).map gg) S
  | [], _ => rfl
  | x :: xs, h => by
    obtain ⟨e1, h1, h2, h3⟩ := h x (List.mem_cons_self ..)
    have ih := lc_filter (xs := xs) fun y hy => h y (List.mem_cons_of_mem _ hy)
    rw [List.map_cons]
    unfold lcLoop
    rw [h1, ofO_some, bind_ok, h2, noR_ok, bind_ok]
    cases e : cc x with
    | false => rw [List.filter_cons_of_neg (by simp [e])]; exact ih
    | true => rw [List.filter_cons_of_pos e, List.map_cons, h3 e, noR_ok, bind_ok, ih, bind_ok]
theorem lc_map {γ : Type} {p : PM} {vs : List Nat} {enc gg : γ → D} {xs : List γ} (h : ∀ x ∈ xs, ∃ e1, p (enc x) (wipeE env vs) = some e1 ∧ a e1 S = .ok (gg x) S) :
    lcLoop p tYs a vs (xs.map enc) env S = .ok (xs.map gg) S := by
  have := lc_filter (env := env) (S := S) (p := p) (t := tYs) (a := a) (vs := vs) (enc := enc) (cc := fun _ => true) (gg := gg) (xs := xs) fun x hx => by
    obtain ⟨e1, h1, h2⟩ := h x hx
    exact ⟨e1, h1, rfl, fun _ => h2⟩
  rwa [List.filter_eq_self.mpr fun _ _ => rfl] at this
/-! for loops -/
def loopS (o : So) (k : Ev → Sto → So) : So := match o with
  | .nx e s => k e s
  | .ct e s => k e s
  | .bk e s => .nx e s
  | .rt d s => .rt d s
  | .rs x e s => .rs x e s
  | .bad => .bad
@[simp] theorem loopS_nx {k : Ev → Sto → So} : loopS (.nx env S) k = k env S := rfl
@[simp] theorem loopS_ct {k : Ev → Sto → So} : loopS (.ct env S) k = k env S := rfl
@[simp] theorem loopS_bk {k : Ev → Sto → So} : loopS (.bk env S) k = .nx env S := rfl
@[simp] theorem loopS_rt {d : D} {k : Ev → Sto → So} : loopS (.rt d S) k = .rt d S := rfl
@[simp] theorem loopS_rs {x : Ex} {k : Ev → Sto → So} : loopS (.rs x env S) k = .rs x env S := rfl
theorem loopS_if {p : Prop} [Decidable p] {x y : So} {k : Ev → Sto → So} : loopS (if p then x else y) k = if p then loopS x k else loopS y k := by split <;> rfl
def optS (o : Option Ev) (k : Ev → So) : So := match o with
  | some e => k e
  | none => .bad
@[simp] theorem optS_some {k : Ev → So} : optS (some env) k = k env := rfl
@[simp] theorem fl_nil {p : PM} : forLoop p m [] env S = .nx env S := rfl
@[simp] theorem fl_cons {p : PM} {d : D} {ds : List D} : forLoop p m (d :: ds) env S = optS (p d env) fun e => loopS (m e S) (forLoop p m ds) := by
  rw [forLoop]
  cases p d env with
  | none => rfl
  | some e =>
    rw [optS_some]
    cases hm : m e S <;> simp [loopS, hm]
theorem bind_if {p : Prop} [Decidable p] {x y : Out α} {f : α → Sto → Out β} : (if p then x else y).bind f = if p then x.bind f else y.bind f := by split <;> rfl
theorem thenS_if {p : Prop} [Decidable p] {x y : Out α} {f : α → Sto → So} : thenS (if p then x else y) env f = if p then thenS x env f else thenS y env f := by split <;> rfl
theorem ofO_if {p : Prop} [Decidable p] {x y : Option α} : ofO (if p then x else y) S = if p then ofO x S else ofO y S := by split <;> rfl
theorem ok_if {p : Prop} [Decidable p] {x y : α} : (if p then Out.ok x S else Out.ok y S) = Out.ok (if p then x else y) S := by split <;> rfl
theorem fl_inv {p : PM} {I : Nat → Ev → Sto → Prop} : ∀ {ds : List D} {env : Ev} {S : Sto}, (∀ (i : Nat) d env S, ds[i]? = some d → I i env S → ∃ e1 e2 S2, p d env = some e1 ∧ (m e1 S = .nx e2 S2 ∨ m e1 S = .ct e2 S2) ∧ I (i + 1) e2 S2) → I 0 env S →
    ∃ e S', forLoop p m ds env S = .nx e S' ∧ I ds.length e S'
  | [], env, S, _, h0 => ⟨env, S, rfl, h0⟩
  | d :: ds, env, S, h, h0 => by
    obtain ⟨e1, e2, S2, h1, h2, h3⟩ := h 0 d env S rfl h0
    obtain ⟨e, S', h4, h5⟩ := fl_inv (I := fun i => I (i + 1)) (ds := ds) (fun i d' env' S' hd hi => h (i + 1) d' env' S' (by simpa using hd) hi) h3
    refine ⟨e, S', ?_, h5⟩
    rw [fl_cons, h1, optS_some]
    rcases h2 with h2 | h2 <;> rw [h2] <;> exact h4
@[simp] theorem isi_ii {x : Int} : isiD [.int x, .raw (.ty "int")] = some (.bl true) := rfl
@[simp] theorem isi_ib {x : Int} : isiD [.int x, .raw (.ty "bool")] = some (.bl false) := rfl
@[simp] theorem isi_it {x : Int} : isiD [.int x, .raw (.ty "tuple")] = some (.bl false) := rfl
@[simp] theorem isi_is {x : Int} : isiD [.int x, .raw (.ty "str")] = some (.bl false) := rfl
@[simp] theorem isi_tt {x : List D} : isiD [.tup x, .raw (.ty "tuple")] = some (.bl true) := rfl
@[simp] theorem isi_ti {x : List D} : isiD [.tup x, .raw (.ty "int")] = some (.bl false) := rfl
@[simp] theorem isi_ts {x : List D} : isiD [.tup x, .raw (.ty "str")] = some (.bl false) := rfl
@[simp] theorem isi_ss {x : Str} : isiD [.str x, .raw (.ty "str")] = some (.bl true) := rfl
@[simp] theorem isi_st {x : Str} : isiD [.str x, .raw (.ty "tuple")] = some (.bl false) := rfl
@[simp] theorem isi_si {x : Str} : isiD [.str x, .raw (.ty "int")] = some (.bl false) := rfl
theorem enumL_get {ds : List D} {i : Nat} {d : D} (h : (enumL ds)[i]? = some d) : ∃ x, ds[i]? = some x ∧ d = .tup [.int (i : Int), x] := by
  unfold enumL at h
  rw [List.getElem?_map, List.getElem?_zipIdx] at h
  cases e : ds[i]? with
  | none => rw [e] at h; simp at h
  | some x => rw [e] at h; simp at h; exact ⟨x, rfl, h.symm⟩
theorem enumL_size {ds : List D} : (enumL ds).length = ds.length := by simp [enumL]
def keyS (o : Option Key) (k : Key → So) : So := match o with
  | some y => k y
  | none => .bad
@[simp] theorem keyS_some {y : Key} {k : Key → So} : keyS (some y) k = k y := rfl
def dctS (o : Option (List (Key × D))) (k : List (Key × D) → So) : So := match o with
  | some y => k y
  | none => .bad
@[simp] theorem dctS_some {y : List (Key × D)} {k : List (Key × D) → So} : dctS (some y) k = k y := rfl
def lstS (o : Option (Bool × List D)) (k : List D → So) : So := match o with
  | some y => k y.2
  | none => .bad
@[simp] theorem lstS_some {y : Bool × List D} {k : List D → So} : lstS (some y) k = k y.2 := rfl
@[simp] theorem ifS_t {o : So} : ifS true o = o := rfl
@[simp] theorem sv_dput : sDput i a b env S = dctS (liveK env[i]?) fun kvs => thenS (b env S) env fun d S1 => thenS (a env S1) env fun x S2 => keyS (keyD x) fun y => ifS (fits (kvs.length + 1)) (.nx (env.set i (.live (.dK (putD kvs y d)))) S2) := by
  unfold sDput withD
  cases liveK env[i]? with
  | none => rfl
  | some kvs =>
    show sBind b _ env S = _
    rw [sv_bind]
    refine congrArg (thenS (b env S) env) ?_
    funext d S1
    rw [sv_bind]
    refine congrArg (thenS (a env S1) env) ?_
    funext x S2
    cases keyD x <;> rfl
@[simp] theorem sv_app : sApp i a env S = lstS (liveL env[i]?) fun ds => thenS (a env S) env fun d S1 => ifS (fits (ds.length + 1)) (.nx (env.set i (.live (.lst (ds ++ [d])))) S1) := by
  unfold sApp withL
  cases liveL env[i]? with
  | none => rfl
  | some q =>
    show sBind a _ env S = _
    rw [sv_bind]
    rfl
end
end Dg

namespace Dg
open PySem PySem.Spec PyProof.Rows L2
/-! ### kinds: pairs of numbers -/
def pr (x : Int × Int) : D := .tup [.int x.1, .int x.2]
def kd (ks : List (Int × Int)) : List D := ks.map pr
@[simp] theorem kd_len {ks : List (Int × Int)} : (kd ks).length = ks.length := by simp [kd]
@[simp] theorem kd_nil : kd [] = [] := rfl
@[simp] theorem kd_cons {x : Int × Int} {ks : List (Int × Int)} : kd (x :: ks) = pr x :: kd ks := rfl
@[simp] theorem ixS_pr0 {S : Sto} {x : Int × Int} : ixS S (pr x) (.int 0) = some (.int x.1) := rfl
@[simp] theorem ixS_pr1 {S : Sto} {x : Int × Int} : ixS S (pr x) (.int 1) = some (.int x.2) := rfl
@[simp] theorem pv_pr {q : PMs} {env : Ev} {x : Int × Int} : pTpA q 2 (pr x) env = q [.int x.1, .int x.2] env := rfl
/-! what == reads of plain data without truths -/
mutual
def plainP : PyData → Bool
  | .none => true
  | .int _ => true
  | .str _ => true
  | .tuple xs => plainPs xs
  | .list xs => plainPs xs
  | _ => false
def plainPs : List PyData → Bool
  | [] => true
  | x :: xs => plainP x && plainPs xs
end
mutual
theorem eqv_plain : ∀ (p q : PyData), plainP p = true → plainP q = true → (PyData.eqv p q = true ↔ p = q)
  | .none, q, _, hq => by cases q <;> simp [PyData.eqv, plainP] at hq ⊢
  | .int i, q, _, hq => by cases q <;> simp [PyData.eqv, plainP] at hq ⊢
  | .str x, q, _, hq => by cases q <;> simp [PyData.eqv, plainP] at hq ⊢
  | .tuple xs, q, hp, hq => by
    cases q <;> simp [PyData.eqv, plainP] at hq ⊢
    exact eqvs_plain _ _ (by simpa [plainP] using hp) hq
  | .list xs, q, hp, hq => by
    cases q <;> simp [PyData.eqv, plainP] at hq ⊢
    exact eqvs_plain _ _ (by simpa [plainP] using hp) hq
theorem eqvs_plain : ∀ (p q : List PyData), plainPs p = true → plainPs q = true → (PyData.eqvAll p q = true ↔ p = q)
  | [], [], _, _ => by simp [PyData.eqvAll]
  | [], _ :: _, _, _ => by simp [PyData.eqvAll]
  | _ :: _, [], _, _ => by simp [PyData.eqvAll]
  | x :: xs, y :: ys, hp, hq => by
    simp only [plainPs, Bool.and_eq_true] at hp hq
    simp only [PyData.eqvAll, Bool.and_eq_true, List.cons.injEq]
    rw [eqv_plain x y hp.1 hq.1, eqvs_plain xs ys hp.2 hq.2]
end
/-- a value that == reads as it stands -/
def PD (d : D) (p : PyData) : Prop := toPy d = some p ∧ plainP p = true ∧ SeqAt.shaped p = true
theorem eqD_of {x y : D} {p q : PyData} (hx : PD x p) (hy : PD y q) : eqD x y = some (.bl (decide (PyData.eqv p q = true))) := by
  unfold eqD py2
  rw [hx.1, hy.1]
  simp [hx.2.2, hy.2.2]
theorem eqD_pd {x y : D} {p q : PyData} (hx : PD x p) (hy : PD y q) {P : Prop} [Decidable P] (h : p = q ↔ P) : eqD x y = some (.bl (decide P)) := by
  rw [eqD_of hx hy]
  congr 2
  exact decide_eq_decide.mpr ((eqv_plain p q hx.2.1 hy.2.1).trans h)
theorem neD_pd {x y : D} {p q : PyData} (hx : PD x p) (hy : PD y q) {P : Prop} [Decidable P] (h : p = q ↔ P) : neD x y = some (.bl (!decide P)) := by
  have := eqv_plain p q hx.2.1 hy.2.1
  unfold neD py2
  rw [hx.1, hy.1]
  simp only [hx.2.2, hy.2.2, Bool.and_self, ↓reduceIte, Option.some.injEq, D.bl.injEq, Bool.not_eq_eq_eq_not, Bool.not_not]
  by_cases hp : P
  · rw [(this.trans h).mpr hp]; simp [hp]
  · have e : PyData.eqv p q = false := by
      cases z : PyData.eqv p q with
      | false => rfl
      | true => exact absurd ((this.trans h).mp z) hp
    rw [e]; simp [hp]
theorem pd_int (i : Int) : PD (.int i) (.int i) := ⟨by simp [toPy], by simp [plainP], by simp [SeqAt.shaped, PyData.canLay0, PyData.depth]⟩
theorem pd_non : PD .non .none := ⟨by simp [toPy], by simp [plainP], by simp [SeqAt.shaped, PyData.canLay0, PyData.depth]⟩
theorem pd_str {x : Str} (h : PyData.strOk x = true) : PD (.str x) (.str x) := ⟨by simp [toPy], by simp [plainP], by simp [SeqAt.shaped, PyData.canLay0, PyData.depth, h]⟩
@[simp] theorem eqD_int {i j : Int} : eqD (.int i) (.int j) = some (.bl (decide (i = j))) := eqD_pd (pd_int i) (pd_int j) (by simp)
@[simp] theorem neD_int {i j : Int} : neD (.int i) (.int j) = some (.bl (!decide (i = j))) := neD_pd (pd_int i) (pd_int j) (by simp)
/-! lists of kinds -/
def prP (x : Int × Int) : PyData := .tuple [.int x.1, .int x.2]
theorem toPys_kd : ∀ ks : List (Int × Int), toPys (kd ks) = some (ks.map prP)
  | [] => by simp [toPys]
  | k :: ks => by rw [kd_cons, toPys, toPys_kd ks]; simp [pr, toPy, toPys, prP]
theorem plain_kd : ∀ ks : List (Int × Int), plainPs (ks.map prP) = true
  | [] => rfl
  | k :: ks => by rw [List.map_cons, plainPs, plain_kd ks]; simp [prP, plainP, plainPs]
theorem lay_kd : ∀ ks : List (Int × Int), PyData.canLayAll0 (ks.map prP) = true
  | [] => by simp [PyData.canLayAll0]
  | k :: ks => by rw [List.map_cons, PyData.canLayAll0, lay_kd ks]; simp [prP, PyData.canLay0, PyData.canLayAll0]
theorem depth_kd : ∀ ks : List (Int × Int), PyData.depthAll (ks.map prP) ≤ 1
  | [] => by simp [PyData.depthAll]
  | k :: ks => by
    rw [List.map_cons, PyData.depthAll]
    have := depth_kd ks
    simp [prP, PyData.depth, PyData.depthAll]
    omega
theorem prP_inj : ∀ {x y : List (Int × Int)}, x.map prP = y.map prP ↔ x = y
  | [], [] => by simp
  | [], _ :: _ => by simp
  | _ :: _, [] => by simp
  | (a, b) :: xs, (c, d) :: ys => by
    have := prP_inj (x := xs) (y := ys)
    simp [prP] at this ⊢
    intro _ _
    exact this
theorem pd_kl (ks : List (Int × Int)) : PD (.lst (kd ks)) (.list (ks.map prP)) := by
  refine ⟨by simp [toPy, toPys_kd], by simp [plainP, plain_kd], ?_⟩
  have := depth_kd ks
  simp [SeqAt.shaped, PyData.canLay0, lay_kd, PyData.depth]
  omega
theorem pd_kt (ks : List (Int × Int)) : PD (.tup (kd ks)) (.tuple (ks.map prP)) := by
  refine ⟨by simp [toPy, toPys_kd], by simp [plainP, plain_kd], ?_⟩
  have := depth_kd ks
  simp [SeqAt.shaped, PyData.canLay0, lay_kd, PyData.depth]
  omega
theorem eqD_kl {x y : List (Int × Int)} : eqD (.lst (kd x)) (.lst (kd y)) = some (.bl (decide (x = y))) := eqD_pd (pd_kl x) (pd_kl y) (by simpa using prP_inj)
theorem eqD_kt {x y : List (Int × Int)} : eqD (.tup (kd x)) (.tup (kd y)) = some (.bl (decide (x = y))) := eqD_pd (pd_kt x) (pd_kt y) (by simpa using prP_inj)
/-! numbers in a list -/
theorem toPys_ints : ∀ ns : List Int, toPys (ns.map D.int) = some (ns.map PyData.int)
  | [] => by simp [toPys]
  | k :: ks => by rw [List.map_cons, toPys, toPys_ints ks]; simp [toPy]
theorem lay_ints : ∀ ks : List Int, PyData.canLayAll0 (ks.map PyData.int) = true
  | [] => by simp [PyData.canLayAll0]
  | k :: ks => by rw [List.map_cons, PyData.canLayAll0, lay_ints ks]; simp [PyData.canLay0]
theorem depth_ints : ∀ ks : List Int, PyData.depthAll (ks.map PyData.int) = 0
  | [] => by simp [PyData.depthAll]
  | k :: ks => by rw [List.map_cons, PyData.depthAll, depth_ints ks]; simp [PyData.depth]
theorem plain_ints : ∀ ks : List Int, plainPs (ks.map PyData.int) = true
  | [] => rfl
  | k :: ks => by rw [List.map_cons, plainPs, plain_ints ks]; simp [plainP]
theorem inD0_int {neg b : Bool} {i : Int} {ns : List Int} : inD0 neg (.int i) (b, ns.map D.int) = some (.bl (neg != decide (i ∈ ns))) := by
  have key : ∀ ns : List Int, ((ns.map PyData.int).any fun z => PyData.eqv z (.int i)) = decide (i ∈ ns) := fun ns => by
    induction ns with
    | nil => rfl
    | cons n ns ih =>
      rw [List.map_cons, List.any_cons, ih, Bool.eq_iff_iff]
      simp only [PyData.eqv, Bool.or_eq_true, beq_iff_eq, decide_eq_true_eq, List.mem_cons]
      exact or_congr eq_comm Iff.rfl
  unfold inD0
  rw [toPys_ints]
  simp only [toPy, key]
  have e1 : SeqAt.shaped (.int i) = true := (pd_int i).2.2
  have e2 : SeqAt.shaped (.list (ns.map PyData.int)) = true := by simp [SeqAt.shaped, PyData.canLay0, lay_ints, PyData.depth, depth_ints]
  rw [e1, e2]
  rfl
theorem pd_il (ns : List Int) : PD (.lst (ns.map D.int)) (.list (ns.map PyData.int)) :=
  ⟨by simp [toPy, toPys_ints], by simp [plainP, plain_ints], by simp [SeqAt.shaped, PyData.canLay0, lay_ints, PyData.depth, depth_ints]⟩
theorem eqD_il {x y : List Int} : eqD (.lst (x.map D.int)) (.lst (y.map D.int)) = some (.bl (decide (x = y))) := eqD_pd (pd_il x) (pd_il y) (by
  rw [PyData.list.injEq]
  constructor
  · exact fun h => (List.map_inj_right fun _ _ h => by injection h).mp h
  · exact fun h => by rw [h])
theorem intsD_ints : ∀ ns : List Int, intsD (ns.map D.int) = some ns
  | [] => rfl
  | n :: ns => by rw [List.map_cons, intsD, intsD_ints ns]
theorem blsD_bls : ∀ ns : List Bool, blsD (ns.map D.bl) = some ns
  | [] => rfl
  | n :: ns => by rw [List.map_cons, blsD, blsD_bls ns]
theorem sumL_ints {ns : List Int} : sumL (true, ns.map D.int) = some (.int ns.sum) := by simp [sumL, listD, intsD_ints]
theorem maxL_ints {ns : List Int} (h : ns ≠ []) : maxL (true, ns.map D.int) = some (.int (maxI ns)) := by simp [maxL, listD, intsD_ints, h]
theorem allL_bls {ns : List Bool} : allL (true, ns.map D.bl) = some (.bl (ns.all id)) := by simp [allL, listD, blsD_bls]
theorem anyL_bls {ns : List Bool} : anyL (true, ns.map D.bl) = some (.bl (ns.any id)) := by simp [anyL, listD, blsD_bls]
end Dg

namespace Dg
open PySem PySem.Spec PyProof.Rows L2
/-! ### a dict from numbers to numbers -/
def encK (acc : List (Int × Int)) : List (Key × D) := acc.map fun x => (Sum.inl x.1, D.int x.2)
def look (acc : List (Int × Int)) (d : Int) : Option Int := (acc.find? fun x => decide (x.1 = d)).map (·.2)
def put (acc : List (Int × Int)) (d v : Int) : List (Int × Int) := if (look acc d).isSome = true then acc.map fun x => if x.1 = d then (x.1, v) else x else acc ++ [(d, v)]
def stepM (acc : List (Int × Int)) (x : Int × Int) : List (Int × Int) := put acc x.1 ((look acc x.1).getD 0 + x.2)
theorem encK_len {acc : List (Int × Int)} : (encK acc).length = acc.length := by simp [encK]
theorem valD_enc {d : Int} : ∀ {acc : List (Int × Int)}, valD (encK acc) (.inl d) = (look acc d).map D.int
  | [] => rfl
  | x :: acc => by
    have ih := valD_enc (d := d) (acc := acc)
    unfold valD look encK at ih ⊢
    by_cases e : x.1 = d
    · simp [e]
    · simp [List.find?_cons, e]
      simpa using ih
theorem putD_enc {acc : List (Int × Int)} {d v : Int} : putD (encK acc) (.inl d) (.int v) = encK (put acc d v) := by
  unfold putD put
  rw [valD_enc, Option.isSome_map]
  split
  · unfold encK
    rw [List.map_map, List.map_map]
    refine List.map_congr_left fun x _ => ?_
    by_cases e : x.1 = d <;> simp [e]
  · simp [encK]
theorem intKeys_enc : ∀ {acc : List (Int × Int)}, intKeys (encK acc) = some (acc.map (·.1))
  | [] => rfl
  | x :: acc => by
    have ih := intKeys_enc (acc := acc)
    unfold encK at ih ⊢
    rw [List.map_cons, intKeys, ih]
    rfl
theorem look_none {acc : List (Int × Int)} {d : Int} : look acc d = none ↔ d ∉ acc.map (·.1) := by
  unfold look
  rw [Option.map_eq_none_iff, List.find?_eq_none]
  simp only [decide_eq_true_eq, List.mem_map, not_exists, not_and]
theorem look_of {d v : Int} : ∀ {acc : List (Int × Int)}, (acc.map (·.1)).Nodup → (d, v) ∈ acc → look acc d = some v
  | [], _, h => by cases h
  | x :: acc, n, h => by
    rw [List.map_cons, List.nodup_cons] at n
    unfold look
    rcases List.mem_cons.mp h with e | h
    · subst e; simp
    · have ne : x.1 ≠ d := fun e => n.1 (e ▸ List.mem_map.mpr ⟨_, h, rfl⟩)
      rw [List.find?_cons_of_neg (by simpa using ne)]
      exact look_of n.2 h
theorem look_mem {acc : List (Int × Int)} {d v : Int} (h : look acc d = some v) : (d, v) ∈ acc := by
  unfold look at h
  obtain ⟨x, h1, rfl⟩ := Option.map_eq_some_iff.mp h
  have := List.find?_some h1
  simp at this
  subst this
  exact List.mem_of_find?_eq_some h1
theorem put_keys {acc : List (Int × Int)} {d v : Int} : (put acc d v).map (·.1) = if d ∈ acc.map (·.1) then acc.map (·.1) else acc.map (·.1) ++ [d] := by
  unfold put
  cases e : look acc d with
  | none =>
    rw [if_neg (look_none.mp e)]
    simp
  | some w =>
    rw [if_pos (List.mem_map.mpr ⟨_, look_mem e, rfl⟩)]
    simp only [Option.isSome_some, ↓reduceIte, List.map_map]
    refine List.map_congr_left fun x _ => ?_
    by_cases q : x.1 = d <;> simp [q]
theorem put_nodup {acc : List (Int × Int)} {d v : Int} (n : (acc.map (·.1)).Nodup) : ((put acc d v).map (·.1)).Nodup := by
  rw [put_keys]
  split
  · exact n
  · rename_i h
    exact List.nodup_append.mpr ⟨n, by simp, fun a ha b hb e => h (by rw [List.mem_singleton.mp hb] at e; exact e ▸ ha)⟩
theorem put_len {acc : List (Int × Int)} {d v : Int} : (put acc d v).length ≤ acc.length + 1 := by
  unfold put
  split <;> simp
theorem foldM_len : ∀ {ks acc : List (Int × Int)}, (ks.foldl stepM acc).length ≤ acc.length + ks.length
  | [], acc => by simp
  | x :: ks, acc => by
    rw [List.foldl_cons]
    have h1 := foldM_len (ks := ks) (acc := stepM acc x)
    have h2 : (stepM acc x).length ≤ acc.length + 1 := put_len
    simp only [List.length_cons]
    omega
theorem foldM_nodup : ∀ {ks acc : List (Int × Int)}, (acc.map (·.1)).Nodup → ((ks.foldl stepM acc).map (·.1)).Nodup
  | [], acc, n => n
  | x :: ks, acc, n => foldM_nodup (ks := ks) (put_nodup n)
/-- distinct keys: the dict is the list -/
theorem foldM_distinct : ∀ {ks acc : List (Int × Int)}, ((acc ++ ks).map (·.1)).Nodup → ks.foldl stepM acc = acc ++ ks
  | [], acc, n => by simp
  | x :: ks, acc, n => by
    have hx : x.1 ∉ acc.map (·.1) := fun h => by
      rw [List.map_append, List.map_cons] at n
      exact (List.nodup_append.mp n).2.2 _ h _ List.mem_cons_self rfl
    rw [List.foldl_cons]
    have e : stepM acc x = acc ++ [x] := by
      unfold stepM put
      rw [look_none.mpr hx]
      simp
    rw [e, foldM_distinct (ks := ks) (by simpa using n)]
    simp
/-- degrees and sums -/
def mg (ks : List (Int × Int)) : List (Int × Int) :=
  ((sortI ((ks.foldl stepM []).map (·.1))).reverse.filter fun k => decide (0 < (look (ks.foldl stepM []) k).getD 0)).map fun k => (k, (look (ks.foldl stepM []) k).getD 0)
/-! all counts positive: nothing falls out, nothing is lost -/
theorem put_mem {acc : List (Int × Int)} {d v : Int} {x : Int × Int} (h : x ∈ put acc d v) : x = (d, v) ∨ x ∈ acc := by
  unfold put at h
  split at h
  · obtain ⟨y, hy, e⟩ := List.mem_map.mp h
    by_cases q : y.1 = d
    · rw [if_pos q] at e; left; rw [← e, q]
    · rw [if_neg q] at e; right; exact e ▸ hy
  · rcases List.mem_append.mp h with h | h
    · exact .inr h
    · exact .inl (List.mem_singleton.mp h)
theorem foldM_inv {b : Int → Prop} : ∀ {ks acc : List (Int × Int)} {t : Int}, (∀ x ∈ acc, 1 ≤ x.2 ∧ x.2 ≤ t ∧ b x.1) → 0 ≤ t → (∀ x ∈ ks, 1 ≤ x.2 ∧ b x.1) →
    ∀ x ∈ ks.foldl stepM acc, 1 ≤ x.2 ∧ x.2 ≤ t + (ks.map (·.2)).sum ∧ b x.1
  | [], acc, t, h, _, _ => by simpa using h
  | k :: ks, acc, t, h, ht, hk => by
    rw [List.foldl_cons, List.map_cons, List.sum_cons, ← Int.add_assoc]
    have k1 := hk k List.mem_cons_self
    refine foldM_inv (t := t + k.2) (fun x hx => ?_) (by omega) fun x hx => hk x (List.mem_cons_of_mem _ hx)
    rcases put_mem hx with rfl | hx
    · cases e : look acc k.1 with
      | none => simp; exact ⟨k1.1, by omega, k1.2⟩
      | some w =>
        have := h _ (look_mem e)
        simp at this ⊢
        exact ⟨by omega, by omega, k1.2⟩
    · have := h x hx
      exact ⟨this.1, by omega, this.2.2⟩
theorem foldM_has : ∀ {ks acc : List (Int × Int)} {d : Int}, d ∈ acc.map (·.1) ∨ d ∈ ks.map (·.1) → d ∈ (ks.foldl stepM acc).map (·.1)
  | [], acc, d, h => by simpa using h
  | k :: ks, acc, d, h => by
    rw [List.foldl_cons]
    refine foldM_has ?_
    have hk : d ∈ (stepM acc k).map (·.1) ↔ d ∈ acc.map (·.1) ∨ d = k.1 := by
      unfold stepM
      rw [put_keys]
      split
      · rename_i hh
        constructor
        · exact .inl
        · rintro (h | rfl)
          · exact h
          · exact hh
      · simp
    rw [hk]
    rcases h with h | h
    · exact .inl (.inl h)
    · rw [List.map_cons, List.mem_cons] at h
      rcases h with h | h
      · exact .inl (.inr h)
      · exact .inr h
structure MgV (ks : List (Int × Int)) (b : Int → Prop) : Prop where
  desc : (mg ks).Pairwise fun x y => y.1 < x.1
  ok : ∀ x ∈ mg ks, 1 ≤ x.2 ∧ x.2 ≤ (ks.map (·.2)).sum ∧ b x.1
  len : (mg ks).length ≤ ks.length
  ne : ks ≠ [] → mg ks ≠ []
theorem mg_v {ks : List (Int × Int)} {b : Int → Prop} (h : ∀ x ∈ ks, 1 ≤ x.2 ∧ b x.1) : MgV ks b := by
  have inv := foldM_inv (b := b) (ks := ks) (acc := []) (t := 0) (fun x hx => by cases hx) (by omega) h
  have nod := foldM_nodup (ks := ks) (acc := []) (by simp)
  have len := foldM_len (ks := ks) (acc := [])
  have has := fun d => foldM_has (ks := ks) (acc := []) (d := d)
  have sub : ∀ k ∈ (sortI ((ks.foldl stepM []).map (·.1))).reverse, ∃ v, look (ks.foldl stepM []) k = some v ∧ 1 ≤ v ∧ v ≤ (ks.map (·.2)).sum ∧ b k := fun k hk => by
    have hk' := (sortI_perm _).mem_iff.mp (List.mem_reverse.mp hk)
    obtain ⟨x, hx, rfl⟩ := List.mem_map.mp hk'
    have e := look_of nod (d := x.1) (v := x.2) hx
    have i := inv x hx
    exact ⟨x.2, e, i.1, by simpa using i.2.1, i.2.2⟩
  have fil : (sortI ((ks.foldl stepM []).map (·.1))).reverse.filter (fun k => decide (0 < (look (ks.foldl stepM []) k).getD 0)) = (sortI ((ks.foldl stepM []).map (·.1))).reverse := by
    rw [List.filter_eq_self]
    intro k hk
    obtain ⟨v, e, h1, _⟩ := sub k hk
    rw [e]
    simp
    omega
  refine ⟨?_, fun x hx => ?_, ?_, fun hne => ?_⟩
  · unfold mg
    rw [fil, List.pairwise_map, List.pairwise_reverse]
    have p1 := sortI_le ((ks.foldl stepM []).map (·.1))
    have p2 : (sortI ((ks.foldl stepM []).map (·.1))).Nodup := (sortI_perm _).nodup_iff.mpr nod
    exact (p1.and p2).imp fun h => by omega
  · unfold mg at hx
    rw [fil] at hx
    obtain ⟨k, hk, rfl⟩ := List.mem_map.mp hx
    obtain ⟨v, e, h1, h2, h3⟩ := sub k hk
    rw [e]
    exact ⟨h1, h2, h3⟩
  · unfold mg
    rw [fil, List.length_map, List.length_reverse, (sortI_perm _).length_eq, List.length_map]
    simpa using len
  · unfold mg
    rw [fil]
    intro z
    have l0 := congrArg List.length z
    rw [List.length_map, List.length_reverse, (sortI_perm _).length_eq, List.length_map] at l0
    cases ks with
    | nil => exact hne rfl
    | cons k ks =>
      have e0 : (k :: ks).foldl stepM [] = [] := List.length_eq_zero_iff.mp l0
      have := has k.1 (.inr (by simp))
      rw [e0] at this
      cases this
/-- one taken from a kind of descending ones -/
theorem mg_dec {ks : List (Int × Int)} {g : Int} (hd : ks.Pairwise fun x y => y.1 < x.1) (hg : g ∈ ks.map (·.1)) :
    mg (ks ++ [(g, -1)]) = (ks.map fun x => if x.1 = g then (x.1, x.2 - 1) else x).filter fun x => decide (0 < x.2) := by
  have nk : (ks.map (·.1)).Nodup := by
    rw [List.Nodup, List.pairwise_map]
    exact hd.imp fun h => by omega
  have f1 : ks.foldl stepM [] = ks := by
    rw [foldM_distinct (ks := ks) (acc := []) (by simpa using nk)]
    simp
  obtain ⟨p, hp, rfl⟩ := List.mem_map.mp hg
  have lp : look ks p.1 = some p.2 := look_of nk hp
  have f2 : (ks ++ [(p.1, -1)]).foldl stepM [] = ks.map fun x => if x.1 = p.1 then (x.1, x.2 - 1) else x := by
    rw [List.foldl_append, f1, List.foldl_cons, List.foldl_nil]
    unfold stepM put
    rw [lp]
    simp only [Option.isSome_some, ↓reduceIte, Option.getD_some]
    refine List.map_congr_left fun x hx => ?_
    by_cases q : x.1 = p.1
    · have lx : look ks x.1 = some x.2 := look_of nk hx
      rw [q, lp] at lx
      have lx := Option.some.inj lx
      simp [q]
      omega
    · simp [q]
  have kk : (ks.map fun x => if x.1 = p.1 then (x.1, x.2 - 1) else x).map (·.1) = ks.map (·.1) := by
    rw [List.map_map]
    refine List.map_congr_left fun x _ => ?_
    by_cases q : x.1 = p.1 <;> simp [q]
  have so : (sortI (ks.map (·.1))).reverse = ks.map (·.1) := (sortI_rev (.refl _) (by
    rw [List.pairwise_map]
    exact hd.imp fun h => by omega)).symm
  unfold mg
  rw [f2, kk, so]
  generalize ha : (ks.map fun x => if x.1 = p.1 then (x.1, x.2 - 1) else x) = acc at *
  rw [← kk]
  have na : (acc.map (·.1)).Nodup := kk ▸ nk
  have la : ∀ x ∈ acc, look acc x.1 = some x.2 := fun x hx => look_of na hx
  generalize look acc = l at la
  clear kk na f2 so ha
  induction acc with
  | nil => rfl
  | cons x acc ih =>
    have hx := la x List.mem_cons_self
    have ih := ih fun y hy => la y (List.mem_cons_of_mem _ hy)
    rw [List.map_cons]
    by_cases c : 0 < x.2
    · rw [List.filter_cons_of_pos (by rw [hx]; simpa using c), List.filter_cons_of_pos (by simpa using c), List.map_cons, ih, hx]
      rfl
    · rw [List.filter_cons_of_neg (by rw [hx]; simpa using c), List.filter_cons_of_neg (by simpa using c), ih]
end Dg

namespace Lw
open PySem PySem.Spec PyProof.Rows L2 Dg
def pl (ks : List (Int × Int)) : Int := (ks.map (·.2)).sum
def en (ks : List (Int × Int)) : Int := (ks.map fun x => x.1 * x.2).sum
def Sq (d : D) (ks : List (Int × Int)) : Prop := d = .tup (kd ks) ∨ d = .lst (kd ks)
def Wd (ks : List (Int × Int)) : Prop := ks.length ≤ 1000 ∧ ∀ x ∈ ks, x.1.natAbs < 2 ^ 1000 ∧ x.2.natAbs < 2 ^ 1000
theorem Sq.items {d : D} {ks : List (Int × Int)} (h : Sq d ks) : itemsD d = some (ks.map pr) := by rcases h with rfl | rfl <;> rfl
theorem fl {n : Nat} (h : n ≤ 1000) : n ≤ 16777216 := Nat.le_trans h (by decide)
variable {S : Sto} {d e : D} {ks js : List (Int × Int)}
theorem places_of_eq (h : Sq d ks) (w : Wd ks) : f_places_of [d] S = .ok (.int (pl ks)) S := by
  have hl : lcLoop (pTpA (psCons (pNm 1) (psCons (pNm 2) psNil)) 2) tYs (eVar 2) [1, 2] (ks.map pr) [.val d, .no, .no] S = .ok ((ks.map fun x => x.2).map D.int) S := by
    rw [List.map_map]
    exact lc_map fun x _ => ⟨[.val d, .val (.int x.1), .val (.int x.2)], by simp [wipeE, pr], by simp⟩
  simp [-List.map_map, f_places_of, m_places_of, runM_eq, h.items, hl, sumL_ints, fl w.1, pl]
theorem ends_of_eq (h : Sq d ks) (w : Wd ks) : f_ends_of [d] S = .ok (.int (en ks)) S := by
  have hl : lcLoop (pTpA (psCons (pNm 1) (psCons (pNm 2) psNil)) 2) tYs (eOp mulD (eVar 1) (eVar 2)) [1, 2] (ks.map pr) [.val d, .no, .no] S = .ok ((ks.map fun x => x.1 * x.2).map D.int) S := by
    rw [List.map_map]
    exact lc_map fun x hx => ⟨[.val d, .val (.int x.1), .val (.int x.2)], by simp [wipeE, pr], by
      have := w.2 x hx
      have ok : mulOk x.1 x.2 = true := mulOk_w (Nat.lt_trans this.1 (Nat.pow_lt_pow_right (by decide) (by decide))) (Nat.lt_trans this.2 (Nat.pow_lt_pow_right (by decide) (by decide)))
      simp [ok]⟩
  simp [-List.map_map, f_ends_of, m_ends_of, runM_eq, h.items, hl, sumL_ints, fl w.1, en]
theorem eqD_str {a b : Str} (ha : PyData.strOk a = true) (hb : PyData.strOk b = true) : eqD (.str a) (.str b) = some (.bl (decide (a = b))) := eqD_pd (pd_str ha) (pd_str hb) (by simp)
@[simp] theorem ok_ring : PyData.strOk "ring" = true := by decide +kernel
@[simp] theorem ok_pairs : PyData.strOk "pairs" = true := by decide +kernel
@[simp] theorem ok_star : PyData.strOk "star" = true := by decide +kernel
@[simp] theorem ok_hub : PyData.strOk "hub" = true := by decide +kernel
@[simp] theorem ok_stars : PyData.strOk "stars" = true := by decide +kernel
@[simp] theorem ok_bridge : PyData.strOk "bridge" = true := by decide +kernel
@[simp] theorem ok_crown : PyData.strOk "crown" = true := by decide +kernel
@[simp] theorem ok_plain : PyData.strOk "plain" = true := by decide +kernel
@[simp] theorem ok_exchanged : PyData.strOk "exchanged" = true := by decide +kernel
@[simp] theorem ok_opposite : PyData.strOk "opposite" = true := by decide +kernel
@[simp] theorem ok_turned : PyData.strOk "turned" = true := by decide +kernel
@[simp] theorem ok_alone : PyData.strOk "alone" = true := by decide +kernel
@[simp] theorem ok_tied : PyData.strOk "tied" = true := by decide +kernel
@[simp] theorem ok_rest : PyData.strOk "rest" = true := by decide +kernel
@[simp] theorem ok_halves : PyData.strOk "halves" = true := by decide +kernel
theorem inD0_str2 {neg l : Bool} {a b c : Str} (ha : PyData.strOk a = true) (hb : PyData.strOk b = true) (hc : PyData.strOk c = true) : inD0 neg (.str a) (l, [.str b, .str c]) = some (.bl (neg != (decide (a = b) || decide (a = c)))) := by
  have e1 := (pd_str ha).2.2
  have e2 : SeqAt.shaped (.list [.str b, .str c]) = true := by simp [SeqAt.shaped, PyData.canLay0, PyData.canLayAll0, PyData.depth, PyData.depthAll, hb, hc]
  simp [inD0, toPy, toPys, e1, e2, PyData.eqv, Bool.beq_eq_decide_eq, eq_comm]
/-! ### the program's families -/
def tur (ks : List (Int × Int)) (top : Int) : List (Int × Int) := (ks.map fun x => (top - x.1, x.2)).reverse
theorem kd_get {i : Nat} : (kd ks)[i]? = ks[i]?.map pr := by simp [kd]
theorem kd_last : (kd ks).getLast? = ks.getLast?.map pr := by simp [kd]
theorem kd_rev : (kd ks).reverse = kd ks.reverse := by simp [kd]
theorem tur_len {top : Int} : (tur ks top).length = ks.length := by simp [tur]
theorem tur_lc {vs : Ev} {top : Int} : lcLoop (pTpA (psCons (pNm 2) (psCons (pNm 3) psNil)) 2) tYs (eTup (aCons (eOp subD (eVar 1) (eVar 2)) (aCons (eVar 3) aNil))) [2, 3] (kd ks.reverse) [.val d, .val (.int top), .no, .no] S = .ok (kd (tur ks top)) S := by
  unfold tur kd
  rw [← List.map_reverse, List.map_map]
  exact lc_map fun x _ => ⟨[.val d, .val (.int top), .val (.int x.1), .val (.int x.2)], by simp [wipeE, pr], by simp [pr]⟩
theorem pos_len {α : Type} {r : List α} : (0 : Int) < (r.length : Int) + 1 := by omega
theorem turned_none {top : Int} {x : Int × Int} {r : List (Int × Int)} (h : Sq d (x :: r)) (c : top < x.1) : f_turned_about [d, .int top] S = .ok .non S := by
  rcases h with rfl | rfl <;> simp [f_turned_about, m_turned_about, runM_eq, c, pr, pos_len]
theorem turned_some {top : Int} (h : Sq d ks) (w : Wd ks) (c : ∀ x, ks.head? = some x → x.1 ≤ top) : f_turned_about [d, .int top] S = .ok (.lst (kd (tur ks top))) S := by
  have hlen : (tur ks top).length ≤ 16777216 := fl (by rw [tur_len]; exact w.1)
  have hl := tur_lc (vs := []) (d := d) (S := S) (ks := ks) (top := top)
  have hr : (kd ks).reverse = kd ks.reverse := kd_rev
  cases ks with
  | nil => rcases h with rfl | rfl <;> simp at hl <;> simp [f_turned_about, m_turned_about, runM_eq, hl, tur]
  | cons x r =>
    have hc : ¬ top < x.1 := by have := c x rfl; omega
    rw [← kd_rev] at hl
    rcases h with rfl | rfl <;> simp only [kd_cons] at hl ⊢ <;> simp [-List.reverse_cons, f_turned_about, m_turned_about, runM_eq, hc, pos_len, hlen, hl]
/-! single -/
def oth (g : Int) (ks : List (Int × Int)) : List (Int × Int) := ks.filter fun x => !decide (x.1 = g)
theorem single_eq {g : Int} (h : Sq d ks) (w : Wd ks) : f_single_besides [d, .int g] S = .ok (match oth g ks with | [(a, 1)] => .int a | _ => .non) S := by
  have hl : lcLoop (pNm 2) (tOfE (eOp neD (eOpS ixS (eVar 2) (eRet (.int 0))) (eVar 1))) (eVar 2) [2] (ks.map pr) [.val d, .val (.int g), .no, .no] S = .ok (kd (oth g ks)) S :=
    lc_filter fun x _ => ⟨[.val d, .val (.int g), .val (pr x), .no], by simp [wipeE], by simp [pr], fun _ => by simp⟩
  have hlen : (oth g ks).length ≤ 16777216 := fl (Nat.le_trans (List.length_filter_le _ _) w.1)
  simp only [f_single_besides, m_single_besides]
  generalize oth g ks = o at hl hlen
  match o, hl, hlen with
  | [], hl, hlen => simp [runM_eq, h.items, hl, hlen]
  | [(a, n)], hl, hlen =>
    by_cases c : n = 1
    · subst c; simp [runM_eq, h.items, hl, hlen, pr]
    · simp [runM_eq, h.items, hl, hlen, pr, c]
  | x :: y :: r, hl, hlen =>
    have : ¬ ((r.length : Int) + 1 + 1 = 1) := by omega
    have hl3 : r.length ≤ 16777214 := by simp at hlen; omega
    simp [runM_eq, h.items, hl, hl3, this]
def isBridge (i o : List (Int × Int)) : Bool := match i, oth 1 o with
  | [(a, n)], [(s, 1)] => decide (2 ≤ a) && (decide (2 ≤ s) && (decide (s ≤ n - 1) && decide (1 < pl o)))
  | _, _ => false
theorem bridge_eq (h : Sq d ks) (h2 : Sq e js) (w : Wd ks) (w2 : Wd js) : f_is_bridge [d, e] S = .ok (.bl (isBridge ks js)) S := by
  have hp := places_of_eq (S := S) h2 w2
  have hs := single_eq (S := S) (g := 1) h2 w2
  simp only [f_is_bridge, m_is_bridge]
  unfold isBridge
  generalize oth 1 js = o at hs
  have hk : lenD [d] = some (.int ks.length) := by rcases h with rfl | rfl <;> simp
  match ks, h with
  | [], h => simp [runM_eq, hs, hk]
  | [(a, n)], h =>
    have hi : ixS S d (.int 0) = some (pr (a, n)) := by rcases h with rfl | rfl <;> simp
    match o, hs with
    | [], hs => simp [runM_eq, hs, hk, hi, pr]
    | [(s, m)], hs =>
      by_cases c : m = 1
      · subst c
        by_cases c1 : a < 2
        · have c2 : ¬ 2 ≤ a := by omega
          simp [runM_eq, hs, hk, hi, pr, c1, c2]
        · have c2 : 2 ≤ a := by omega
          by_cases c3 : 2 ≤ s
          · by_cases c4 : s ≤ n - 1 <;> simp [runM_eq, hs, hk, hi, hp, pr, c1, c2, c3, c4]
          · simp [runM_eq, hs, hk, hi, hp, pr, c1, c2, c3]
      · by_cases c1 : a < 2 <;> simp [runM_eq, hs, hk, hi, pr, c, c1]
    | x :: y :: r, hs => by_cases c1 : a < 2 <;> simp [runM_eq, hs, hk, hi, pr, c1]
  | x :: y :: r, h =>
    have : ¬ ((r.length : Int) + 1 + 1 = 1) := by omega
    simp [runM_eq, hs, hk, this]
def isCrown (i o : List (Int × Int)) : Bool := match o with
  | [(c, b)] => decide (c = 2) && (decide (4 ≤ pl i) && (match i with
    | [(a, n)] => decide (a = b - 1) && decide (2 < b)
    | [(a, n), (c, m)] => decide (2 ≤ c) && decide (b - 1 ∈ ((i.filter fun x => decide (x.2 = 1)).map (·.1)))
    | _ => false))
  | _ => false
theorem crown_eq (h : Sq d ks) (h2 : Sq e js) (w : Wd ks) (w2 : Wd js) : f_is_crown [d, e] S = .ok (.bl (isCrown ks js)) S := by
  have hp := places_of_eq (S := S) h w
  have hq := places_of_eq (S := S) h2 w2
  have hk : lenD [d] = some (.int ks.length) := by rcases h with rfl | rfl <;> simp
  have hj : lenD [e] = some (.int js.length) := by rcases h2 with rfl | rfl <;> simp
  simp only [f_is_crown, m_is_crown]
  unfold isCrown
  match js, h2 with
  | [], h2 => simp [runM_eq, hp, hq, hk, hj]
  | x :: y :: r, h2 =>
    have : ¬ ((r.length : Int) + 1 + 1 = 1) := by omega
    simp [runM_eq, hp, hq, hk, hj, this]
  | [(c, b)], h2 =>
    have hi : ixS S e (.int 0) = some (pr (c, b)) := by rcases h2 with rfl | rfl <;> simp
    have hb : pl [(c, b)] = b := by simp [pl]
    rw [hb] at hq
    by_cases c2 : c = 2
    · subst c2
      by_cases c4 : pl ks < 4
      · have c5 : ¬ 4 ≤ pl ks := by omega
        simp [runM_eq, hp, hq, hk, hj, hi, c4, c5]
      · have c5 : 4 ≤ pl ks := by omega
        match ks, h with
        | [], h => simp [runM_eq, hp, hq, hk, hj, hi, c4, c5]
        | [(a, n)], h =>
          have hx : ixS S d (.int 0) = some (pr (a, n)) := by rcases h with rfl | rfl <;> simp
          simp [runM_eq, hp, hq, hk, hj, hi, hx, c4, c5]
        | [(a, n), (u, v)], h =>
          have hy : ixS S d (.int 1) = some (pr (u, v)) := by rcases h with rfl | rfl <;> simp
          have hl : lcLoop (pTpA (psCons (pNm 4) (psCons (pNm 5) psNil)) 2) (tOfE (eOp eqD (eVar 5) (eRet (.int 1)))) (eVar 4) [4, 5] [pr (a, n), pr (u, v)] [.val d, .val e, .val (.int (pl [(a, n), (u, v)])), .val (.int b), .no, .no] S = .ok ((([(a, n), (u, v)].filter fun x => decide (x.2 = 1)).map (·.1)).map D.int) S := by
            rw [List.map_map]
            exact lc_filter (xs := [(a, n), (u, v)]) (enc := pr) fun x _ => ⟨[.val d, .val e, .val (.int (pl [(a, n), (u, v)])), .val (.int b), .val (.int x.1), .val (.int x.2)], by simp [wipeE], by simp, fun _ => by simp⟩
          have hf : (([(a, n), (u, v)].filter fun x => decide (x.2 = 1)).map (·.1)).length ≤ 16777216 := by
            have := List.length_filter_le (fun x : Int × Int => decide (x.2 = 1)) [(a, n), (u, v)]
            simp only [List.length_map, List.length_cons, List.length_nil] at this ⊢
            omega
          have it : itemsD d = some [pr (a, n), pr (u, v)] := h.items
          generalize (([(a, n), (u, v)].filter fun x => decide (x.2 = 1)).map (·.1)) = ns at hl hf
          by_cases c6 : u < 2
          · have c7 : ¬ 2 ≤ u := by omega
            simp [runM_eq, hp, hq, hk, hj, hi, hy, c4, c5, c6, c7]
          · have c7 : 2 ≤ u := by omega
            simp [-List.map_map, runM_eq, hp, hq, hk, hj, hi, hy, c4, c5, c6, c7, it, hl, hf, inD0_int]
        | x :: y :: z :: r, h =>
          have t1 : ¬ ((r.length : Int) + 1 + 1 + 1 = 1) := by omega
          have t2 : ¬ ((r.length : Int) + 1 + 1 + 1 = 2) := by omega
          simp [runM_eq, hp, hq, hk, hj, hi, c4, c5, t1, t2]
    · simp [runM_eq, hp, hq, hk, hj, hi, c2]
def isStars (i o : List (Int × Int)) : Bool := match o with
  | [(c, _)] => decide (c = 1) && ((match i.getLast? with | some z => decide (1 ≤ z.1) | none => false) && decide (2 ≤ pl i))
  | _ => false
theorem Sq.last {S : Sto} (h : Sq d ks) : ixS S d (.int (-1)) = ks.getLast?.map pr := by rcases h with rfl | rfl <;> simp [kd_last]
theorem Sq.len (h : Sq d ks) : lenD [d] = some (.int ks.length) := by rcases h with rfl | rfl <;> simp
theorem Sq.at0 {S : Sto} {x : Int × Int} {r : List (Int × Int)} (h : Sq d (x :: r)) : ixS S d (.int 0) = some (pr x) := by rcases h with rfl | rfl <;> simp
theorem Sq.at1 {S : Sto} {x y : Int × Int} {r : List (Int × Int)} (h : Sq d (x :: y :: r)) : ixS S d (.int 1) = some (pr y) := by rcases h with rfl | rfl <;> simp
theorem stars_eq (h : Sq d ks) (h2 : Sq e js) (w : Wd ks) (w2 : Wd js) (n1 : ks ≠ []) : f_is_halves_of [.str "stars", d, e] S = .ok (.bl (decide (en ks = en js) && isStars ks js)) S := by
  have a := ends_of_eq (S := S) h w
  have b := ends_of_eq (S := S) h2 w2
  have p := places_of_eq (S := S) h w
  have l := h2.len
  have la := h.last (S := S)
  obtain ⟨z, hz⟩ : ∃ z, ks.getLast? = some z := by rw [List.getLast?_eq_some_getLast n1]; exact ⟨_, rfl⟩
  rw [hz] at la
  simp only [f_is_halves_of, m_is_halves_of]
  unfold isStars
  rw [hz]
  by_cases c : en ks = en js
  · match js, h2 with
    | [], h2 => simp [runM_eq, a, b, c, eqD_str, l]
    | [(x, y)], h2 =>
      have hi := h2.at0 (S := S)
      simp [runM_eq, a, b, c, eqD_str, l, hi, la, p]
    | x :: y :: r, h2 =>
      have : ¬ ((r.length : Int) + 1 + 1 = 1) := by omega
      simp [runM_eq, a, b, c, eqD_str, l, this]
  · simp [runM_eq, a, b, c]
theorem hbridge_eq (h : Sq d ks) (h2 : Sq e js) (w : Wd ks) (w2 : Wd js) : f_is_halves_of [.str "bridge", d, e] S = .ok (.bl (decide (en ks = en js) && isBridge ks js)) S := by
  have a := ends_of_eq (S := S) h w
  have b := ends_of_eq (S := S) h2 w2
  have p := bridge_eq (S := S) h h2 w w2
  simp only [f_is_halves_of, m_is_halves_of]
  by_cases c : en ks = en js <;> simp (decide := true) [runM_eq, a, b, c, eqD_str, p]
theorem hcrown_eq (h : Sq d ks) (h2 : Sq e js) (w : Wd ks) (w2 : Wd js) : f_is_halves_of [.str "crown", d, e] S = .ok (.bl (decide (en ks = en js) && isCrown ks js)) S := by
  have a := ends_of_eq (S := S) h w
  have b := ends_of_eq (S := S) h2 w2
  have p := crown_eq (S := S) h h2 w w2
  simp only [f_is_halves_of, m_is_halves_of]
  by_cases c : en ks = en js <;> simp (decide := true) [runM_eq, a, b, c, eqD_str, p]
/-! rests -/
def isRing (ks : List (Int × Int)) : Bool := decide (ks = [(2, 5)])
def isPairs (ks : List (Int × Int)) : Bool := match ks with
  | [(a, n)] => decide (a = 1) && (decide (4 ≤ n) && decide (n % 2 = 0))
  | _ => false
def isStar (ks : List (Int × Int)) : Bool := match ks with
  | [(g, s), (d, c)] => decide (s = 1) && (decide (d = 1) && (decide (2 ≤ g) && (decide (g < c) && decide ((c - g) % 2 = 0))))
  | _ => false
def isHub (ks : List (Int × Int)) : Bool := match ks with
  | [(g, s), (d, c)] => decide (s = 1) && (decide (d = 2) && (decide (4 ≤ g) && (decide (g % 2 = 0) && decide (c = g + 1))))
  | _ => false
theorem eq_ring : eqD (.lst (kd ks)) (.lst [.tup [.int 2, .int 5]]) = some (.bl (decide (ks = [(2, 5)]))) := eqD_kl (y := [(2, 5)])
theorem ring_eq : f_is_rest_of [.str "ring", .lst (kd ks)] S = .ok (.bl (isRing ks)) S := by
  simp [f_is_rest_of, m_is_rest_of, runM_eq, eqD_str, eq_ring, isRing]
theorem pairs_eq : f_is_rest_of [.str "pairs", .lst (kd ks)] S = .ok (.bl (isPairs ks)) S := by
  match ks with
  | [] => simp (decide := true) [f_is_rest_of, m_is_rest_of, runM_eq, eqD_str, isPairs]
  | [(a, n)] => simp (decide := true) [f_is_rest_of, m_is_rest_of, runM_eq, eqD_str, isPairs]
  | x :: y :: r =>
    have : ¬ ((r.length : Int) + 1 + 1 = 1) := by omega
    simp (decide := true) [f_is_rest_of, m_is_rest_of, runM_eq, eqD_str, isPairs, this]
theorem star_eq : f_is_rest_of [.str "star", .lst (kd ks)] S = .ok (.bl (isStar ks)) S := by
  match ks with
  | [] => simp (decide := true) [f_is_rest_of, m_is_rest_of, runM_eq, eqD_str, isStar]
  | [x] => simp (decide := true) [f_is_rest_of, m_is_rest_of, runM_eq, eqD_str, isStar]
  | [(g, s), (d, c)] =>
    by_cases h : s = 1 <;> simp (decide := true) [f_is_rest_of, m_is_rest_of, runM_eq, eqD_str, isStar, h]
  | x :: y :: z :: r =>
    have : ¬ ((r.length : Int) + 1 + 1 + 1 = 2) := by omega
    simp (decide := true) [f_is_rest_of, m_is_rest_of, runM_eq, eqD_str, isStar, this]
theorem hub_eq : f_is_rest_of [.str "hub", .lst (kd ks)] S = .ok (.bl (isHub ks)) S := by
  match ks with
  | [] => simp (decide := true) [f_is_rest_of, m_is_rest_of, runM_eq, eqD_str, isHub]
  | [x] => simp (decide := true) [f_is_rest_of, m_is_rest_of, runM_eq, eqD_str, isHub]
  | [(g, s), (d, c)] =>
    by_cases h : s = 1 <;> simp (decide := true) [f_is_rest_of, m_is_rest_of, runM_eq, eqD_str, isHub, h]
  | x :: y :: z :: r =>
    have : ¬ ((r.length : Int) + 1 + 1 + 1 = 2) := by omega
    simp (decide := true) [f_is_rest_of, m_is_rest_of, runM_eq, eqD_str, isHub, this]
/-- the degrees are at most so great -/
def Top (ks : List (Int × Int)) (t : Int) : Prop := ∀ x, ks.head? = some x → x.1 ≤ t
instance {t : Int} : Decidable (Top ks t) := by
  unfold Top
  cases ks with
  | nil => exact isTrue fun x h => by cases h
  | cons k r => exact decidable_of_iff (k.1 ≤ t) ⟨fun h x hx => by cases hx; exact h, fun h => h k rfl⟩
def curD (ks : List (Int × Int)) (t : Int) : D := if Top ks t then .lst (kd (tur ks t)) else .non
theorem turned_if {t : Int} (h : Sq d ks) (w : Wd ks) : f_turned_about [d, .int t] S = .ok (curD ks t) S := by
  unfold curD
  by_cases c : Top ks t
  · rw [if_pos c]; exact turned_some h w c
  · rw [if_neg c]
    cases ks with
    | nil => exact absurd (fun x hx => by cases hx) c
    | cons k r => exact turned_none h (by
        have : ¬ k.1 ≤ t := fun z => c fun x hx => by cases hx; exact z
        omega)
theorem read_plain (h : Sq d ks) : f_rest_read [d, .str "plain"] S = .ok (.lst (kd ks)) S := by
  rcases h with rfl | rfl <;> simp [f_rest_read, m_rest_read, runM_eq, eqD_str]
theorem read_opp (h : Sq d ks) (w : Wd ks) : f_rest_read [d, .str "opposite"] S = .ok (curD ks (pl ks - 1)) S := by
  simp (decide := true) [f_rest_read, m_rest_read, runM_eq, eqD_str, places_of_eq h w, turned_if h w]
/-! halves, read -/
def two (a b : D) : D := .tup [a, b]
theorem hread_plain (h : Sq d ks) (h2 : Sq e js) : f_halves_read [d, e, .str "plain"] S = .ok (two (.lst (kd ks)) (.lst (kd js))) S := by
  rcases h with rfl | rfl <;> rcases h2 with rfl | rfl <;> simp (decide := true) [f_halves_read, m_halves_read, runM_eq, inD0_str2, two]
theorem hread_exch (h : Sq d ks) (h2 : Sq e js) : f_halves_read [d, e, .str "exchanged"] S = .ok (two (.lst (kd js)) (.lst (kd ks))) S := by
  rcases h with rfl | rfl <;> rcases h2 with rfl | rfl <;> simp (decide := true) [f_halves_read, m_halves_read, runM_eq, inD0_str2, two]
def curD2 (ks js : List (Int × Int)) : D := if Top ks (pl js) ∧ Top js (pl ks) then two (.lst (kd (tur ks (pl js)))) (.lst (kd (tur js (pl ks)))) else .non
theorem hread_turned (h : Sq d ks) (h2 : Sq e js) (w : Wd ks) (w2 : Wd js) : f_halves_read [d, e, .str "turned"] S = .ok (curD2 ks js) S := by
  unfold curD2
  by_cases c1 : Top ks (pl js) <;> by_cases c2 : Top js (pl ks) <;>
    simp (decide := true) [f_halves_read, m_halves_read, runM_eq, inD0_str2, two, places_of_eq h w, places_of_eq h2 w2, turned_if h w, turned_if h2 w2, curD, c1, c2]
theorem hread_opp (h : Sq d ks) (h2 : Sq e js) (w : Wd ks) (w2 : Wd js) : f_halves_read [d, e, .str "opposite"] S = .ok (if Top ks (pl js) ∧ Top js (pl ks) then two (.lst (kd (tur js (pl ks)))) (.lst (kd (tur ks (pl js)))) else .non) S := by
  by_cases c1 : Top ks (pl js) <;> by_cases c2 : Top js (pl ks) <;>
    simp (decide := true) [f_halves_read, m_halves_read, runM_eq, inD0_str2, two, places_of_eq h w, places_of_eq h2 w2, turned_if h w, turned_if h2 w2, curD, c1, c2]
def R (a b : Str) : D := .tup [.str a, .str b]
def curB (ks : List (Int × Int)) (t : Int) (f : List (Int × Int) → Bool) : Bool := decide (Top ks t) && f (tur ks t)
def restRes (ks : List (Int × Int)) : D :=
  if isRing ks = true then R "ring" "plain" else if curB ks (pl ks - 1) isRing = true then R "ring" "opposite" else
  if isPairs ks = true then R "pairs" "plain" else if curB ks (pl ks - 1) isPairs = true then R "pairs" "opposite" else
  if isStar ks = true then R "star" "plain" else if curB ks (pl ks - 1) isStar = true then R "star" "opposite" else
  if isHub ks = true then R "hub" "plain" else if curB ks (pl ks - 1) isHub = true then R "hub" "opposite" else .non
theorem family_rest (h : Sq d ks) (w : Wd ks) : f_family_of [.tup [.str "rest", d]] S = .ok (restRes ks) S := by
  unfold restRes curB R
  by_cases c : Top ks (pl ks - 1)
  · have ro : ∀ S, f_rest_read [d, .str "opposite"] S = .ok (.lst (kd (tur ks (pl ks - 1)))) S := fun S => by rw [read_opp h w, curD, if_pos c]
    have rp : ∀ S, f_rest_read [d, .str "plain"] S = .ok (.lst (kd ks)) S := fun S => read_plain h
    simp (decide := true) [f_family_of, m_family_of, runM_eq, inD0_str2, eqD_str, d_RESTS, ro, rp, ring_eq, pairs_eq, star_eq, hub_eq, c, loopS_if, seqS_if, retO_if]
    repeat' split
    all_goals rfl
  · have ro : ∀ S, f_rest_read [d, .str "opposite"] S = .ok .non S := fun S => by rw [read_opp h w, curD, if_neg c]
    have rp : ∀ S, f_rest_read [d, .str "plain"] S = .ok (.lst (kd ks)) S := fun S => read_plain h
    simp (decide := true) [f_family_of, m_family_of, runM_eq, inD0_str2, eqD_str, d_RESTS, ro, rp, ring_eq, pairs_eq, star_eq, hub_eq, c, loopS_if, seqS_if, retO_if]
    repeat' split
    all_goals rfl
def hvS (i o : List (Int × Int)) : Bool := decide (en i = en o) && isStars i o
def hvB (i o : List (Int × Int)) : Bool := decide (en i = en o) && isBridge i o
def hvC (i o : List (Int × Int)) : Bool := decide (en i = en o) && isCrown i o
def Both (ks js : List (Int × Int)) : Prop := Top ks (pl js) ∧ Top js (pl ks)
instance : Decidable (Both ks js) := by unfold Both; infer_instance
def halfRes (ks js : List (Int × Int)) (c : Bool) (ti to : List (Int × Int)) : D :=
  if hvS ks js = true then R "stars" "plain" else if hvS js ks = true then R "stars" "exchanged" else if (c && hvS to ti) = true then R "stars" "opposite" else if (c && hvS ti to) = true then R "stars" "turned" else
  if hvB ks js = true then R "bridge" "plain" else if hvB js ks = true then R "bridge" "exchanged" else if (c && hvB to ti) = true then R "bridge" "opposite" else if (c && hvB ti to) = true then R "bridge" "turned" else
  if hvC ks js = true then R "crown" "plain" else if hvC js ks = true then R "crown" "exchanged" else if (c && hvC to ti) = true then R "crown" "opposite" else if (c && hvC ti to) = true then R "crown" "turned" else .non
theorem kl_sq : Sq (.lst (kd ks)) ks := .inr rfl
theorem family_halves (h : Sq d ks) (h2 : Sq e js) (w : Wd ks) (w2 : Wd js) (n1 : ks ≠ []) (n2 : js ≠ []) (wt : Both ks js → Wd (tur ks (pl js)) ∧ Wd (tur js (pl ks))) :
    f_family_of [.tup [.str "halves", d, e]] S = .ok (halfRes ks js (decide (Both ks js)) (tur ks (pl js)) (tur js (pl ks))) S := by
  have rp : ∀ S, f_halves_read [d, e, .str "plain"] S = .ok (two (.lst (kd ks)) (.lst (kd js))) S := fun S => hread_plain h h2
  have rx : ∀ S, f_halves_read [d, e, .str "exchanged"] S = .ok (two (.lst (kd js)) (.lst (kd ks))) S := fun S => hread_exch h h2
  have a1 : ∀ S, f_is_halves_of [.str "stars", .lst (kd ks), .lst (kd js)] S = .ok (.bl (hvS ks js)) S := fun S => stars_eq kl_sq kl_sq w w2 n1
  have a2 : ∀ S, f_is_halves_of [.str "stars", .lst (kd js), .lst (kd ks)] S = .ok (.bl (hvS js ks)) S := fun S => stars_eq kl_sq kl_sq w2 w n2
  have b1 : ∀ S, f_is_halves_of [.str "bridge", .lst (kd ks), .lst (kd js)] S = .ok (.bl (hvB ks js)) S := fun S => hbridge_eq kl_sq kl_sq w w2
  have b2 : ∀ S, f_is_halves_of [.str "bridge", .lst (kd js), .lst (kd ks)] S = .ok (.bl (hvB js ks)) S := fun S => hbridge_eq kl_sq kl_sq w2 w
  have c1 : ∀ S, f_is_halves_of [.str "crown", .lst (kd ks), .lst (kd js)] S = .ok (.bl (hvC ks js)) S := fun S => hcrown_eq kl_sq kl_sq w w2
  have c2 : ∀ S, f_is_halves_of [.str "crown", .lst (kd js), .lst (kd ks)] S = .ok (.bl (hvC js ks)) S := fun S => hcrown_eq kl_sq kl_sq w2 w
  by_cases c : Both ks js
  · obtain ⟨w3, w4⟩ := wt c
    have m1 : tur ks (pl js) ≠ [] := fun z => n1 (by have := congrArg List.length z; rw [tur_len] at this; exact List.length_eq_zero_iff.mp this)
    have m2 : tur js (pl ks) ≠ [] := fun z => n2 (by have := congrArg List.length z; rw [tur_len] at this; exact List.length_eq_zero_iff.mp this)
    have ro : ∀ S, f_halves_read [d, e, .str "opposite"] S = .ok (two (.lst (kd (tur js (pl ks)))) (.lst (kd (tur ks (pl js))))) S := fun S => by rw [hread_opp h h2 w w2]; exact congrArg (fun z => Out.ok z S) (if_pos c)
    have rt : ∀ S, f_halves_read [d, e, .str "turned"] S = .ok (two (.lst (kd (tur ks (pl js)))) (.lst (kd (tur js (pl ks))))) S := fun S => by rw [hread_turned h h2 w w2, curD2]; exact congrArg (fun z => Out.ok z S) (if_pos c)
    generalize tur ks (pl js) = ti at *
    generalize tur js (pl ks) = to at *
    have a3 : ∀ S, f_is_halves_of [.str "stars", .lst (kd to), .lst (kd ti)] S = .ok (.bl (hvS to ti)) S := fun S => stars_eq kl_sq kl_sq w4 w3 m2
    have a4 : ∀ S, f_is_halves_of [.str "stars", .lst (kd ti), .lst (kd to)] S = .ok (.bl (hvS ti to)) S := fun S => stars_eq kl_sq kl_sq w3 w4 m1
    have b3 : ∀ S, f_is_halves_of [.str "bridge", .lst (kd to), .lst (kd ti)] S = .ok (.bl (hvB to ti)) S := fun S => hbridge_eq kl_sq kl_sq w4 w3
    have b4 : ∀ S, f_is_halves_of [.str "bridge", .lst (kd ti), .lst (kd to)] S = .ok (.bl (hvB ti to)) S := fun S => hbridge_eq kl_sq kl_sq w3 w4
    have c3 : ∀ S, f_is_halves_of [.str "crown", .lst (kd to), .lst (kd ti)] S = .ok (.bl (hvC to ti)) S := fun S => hcrown_eq kl_sq kl_sq w4 w3
    have c4 : ∀ S, f_is_halves_of [.str "crown", .lst (kd ti), .lst (kd to)] S = .ok (.bl (hvC ti to)) S := fun S => hcrown_eq kl_sq kl_sq w3 w4
    simp (decide := true) [f_family_of, m_family_of, runM_eq, inD0_str2, eqD_str, d_HALVES, d_READINGS, rp, rx, ro, rt, two, a1, a2, a3, a4, b1, b2, b3, b4, c1, c2, c3, c4, c, loopS_if, seqS_if, retO_if, halfRes, R, ok_if]
  · have ro : ∀ S, f_halves_read [d, e, .str "opposite"] S = .ok .non S := fun S => by rw [hread_opp h h2 w w2]; exact congrArg (fun z => Out.ok z S) (if_neg c)
    have rt : ∀ S, f_halves_read [d, e, .str "turned"] S = .ok .non S := fun S => by rw [hread_turned h h2 w w2, curD2]; exact congrArg (fun z => Out.ok z S) (if_neg c)
    simp (decide := true) [f_family_of, m_family_of, runM_eq, inD0_str2, eqD_str, d_HALVES, d_READINGS, rp, rx, ro, rt, two, a1, a2, b1, b2, c1, c2, c, loopS_if, seqS_if, retO_if, halfRes, R, ok_if]
theorem family_word {x : Str} {n : Int} (hx : x = "alone" ∨ x = "tied") : f_family_of [.tup [.str x, .int n]] S = .ok (R x "plain") S := by
  rcases hx with rfl | rfl <;> simp (decide := true) [f_family_of, m_family_of, runM_eq, inD0_str2, R]
/-! ### pieces -/
def kOk (x : Int × Int) : Bool := decide (0 ≤ x.1) && ((!decide (10000000000000000000000000000000 < x.1)) && (decide (1 ≤ x.2) && decide (x.2 ≤ 1000000000000000000000000000000)))
theorem is_integer_eq {n : Int} : f_is_integer [.int n] S = .ok (.bl true) S := by simp [f_is_integer, m_is_integer, runM_eq]
theorem is_count_eq {n : Int} : f_is_count [.int n] S = .ok (.bl (decide (0 ≤ n))) S := by simp [f_is_count, m_is_count, runM_eq, is_integer_eq]
theorem pr_tup {x : Int × Int} : pr x = .tup [.int x.1, .int x.2] := rfl
theorem is_kind_n {x : Int × Int} : f_is_kind [pr x, .non] S = .ok (.bl (kOk x)) S := by
  by_cases a : 0 ≤ x.1 <;> by_cases b : 10000000000000000000000000000000 < x.1 <;> by_cases c : 1 ≤ x.2 <;> by_cases d : x.2 ≤ 1000000000000000000000000000000 <;>
    simp [f_is_kind, m_is_kind, runM_eq, is_integer_eq, is_count_eq, pr_tup, kOk, d_MOST_DEGREE, d_MOST_COUNT, a, b, c, d]
theorem is_kind_s {x y : Int × Int} : f_is_kind [pr x, pr y] S = .ok (.bl (kOk x && decide (x.1 < y.1))) S := by
  by_cases a : 0 ≤ x.1 <;> by_cases b : 10000000000000000000000000000000 < x.1 <;> by_cases c : 1 ≤ x.2 <;> by_cases d : x.2 ≤ 1000000000000000000000000000000 <;>
    simp [f_is_kind, m_is_kind, runM_eq, is_integer_eq, is_count_eq, pr_tup, kOk, d_MOST_DEGREE, d_MOST_COUNT, a, b, c, d]
/-- descending -/
def Desc : List (Int × Int) → Prop
  | x :: y :: r => y.1 < x.1 ∧ Desc (y :: r)
  | _ => True
theorem Desc.at : ∀ {ks : List (Int × Int)} {i : Nat} {x y : Int × Int}, Desc ks → ks[i]? = some x → ks[i + 1]? = some y → y.1 < x.1
  | x :: y :: r, 0, _, _, h, h1, h2 => by
    simp at h1 h2
    subst h1 h2
    exact h.1
  | x :: y :: r, i + 1, _, _, h, h1, h2 => Desc.at (ks := y :: r) (i := i) h.2 (by simpa using h1) (by simpa using h2)
  | [x], 0, _, _, _, _, h2 => by simp at h2
  | [x], i + 1, _, _, _, _, h2 => by simp at h2
  | [], i, _, _, _, h1, _ => by simp at h1
/-- what a kinds' tuple is to be -/
structure Vk (ks : List (Int × Int)) : Prop where
  ne : ks ≠ []
  len : ks.length ≤ 10
  ok : ∀ x ∈ ks, kOk x = true
  desc : Desc ks
theorem wrong_kind_v (v : Vk ks) : f_wrong_kind [.tup (kd ks)] S = .ok .non S := by
  have hn : ¬ ((ks.length : Int) = 0) := by have := List.length_pos_iff.mpr v.ne; omega
  have key : ∃ e S', forLoop (pTpA (psCons (pNm 1) (psCons (pNm 2) psNil)) 2) (sIf (mOr (tOfE (eOp eqD (eVar 1) (eRet d_MOST_KINDS))) (mNot (tOfE (eCall 2 f_is_kind (aCons (eVar 2) (aCons (eIf (tOfE (eOp eqD (eVar 1) (eRet (.int 0)))) (eRet .non) (eOpS ixS (eVar 0) (eOp subD (eVar 1) (eRet (.int 1))))) aNil)))))) (sRet (eVar 1)) sSkip) (enumL (kd ks)) [.val (.tup (kd ks)), .no, .no] S = .nx e S' ∧ (S' = S ∧ ∃ a b, e = [.val (.tup (kd ks)), a, b]) := by
    refine fl_inv (I := fun _ e S' => S' = S ∧ ∃ a b, e = [.val (.tup (kd ks)), a, b]) (fun i d env S1 hd ⟨hS, a, b, he⟩ => ?_) ⟨rfl, _, _, rfl⟩
    subst hS he
    obtain ⟨x, hx, rfl⟩ := enumL_get hd
    rw [kd_get, Option.map_eq_some_iff] at hx
    obtain ⟨k, hk, rfl⟩ := hx
    have hok : kOk k = true := v.ok k (List.mem_of_getElem? hk)
    have hi : i < ks.length := (List.getElem?_eq_some_iff.mp hk).1
    have h10 : ¬ ((i : Int) = 10) := by have := v.len; omega
    refine ⟨[.val (.tup (kd ks)), .val (.int i), .val (pr k)], [.val (.tup (kd ks)), .val (.int i), .val (pr k)], S1, by simp, .inl ?_, rfl, _, _, rfl⟩
    cases i with
    | zero => simp [d_MOST_KINDS, is_kind_n, hok]
    | succ j =>
      obtain ⟨y, hy⟩ : ∃ y, ks[j]? = some y := ⟨_, List.getElem?_eq_getElem (by omega)⟩
      have hlt := v.desc.at hy hk
      have hz : ¬ (((j : Int) + 1) = 0) := by omega
      have h10' : ¬ ((j : Int) + 1 = 10) := by simpa using h10
      have hat : atI (kd ks) ((j : Int)) = some (pr y) := by rw [atI_nat (Int.natCast_nonneg j), Int.toNat_natCast, kd_get, hy]; rfl
      simp [d_MOST_KINDS, is_kind_s, hok, hz, h10', hat, hlt]
  obtain ⟨e, S', hl, rfl, _⟩ := key
  simp [f_wrong_kind, m_wrong_kind, runM_eq, hn, hl, v.ne]
theorem is_piece_word {x : Str} {n : Int} (hx : x = "alone" ∨ x = "tied") (hn : 1 ≤ n) : f_is_piece [.tup [.str x, .int n]] S = .ok (.bl true) S := by
  rcases hx with rfl | rfl <;> simp (decide := true) [f_is_piece, m_is_piece, runM_eq, inD0_str2, is_integer_eq, hn]
theorem is_piece_rest (v : Vk ks) : f_is_piece [.tup [.str "rest", .tup (kd ks)]] S = .ok (.bl true) S := by
  simp (decide := true) [f_is_piece, m_is_piece, runM_eq, inD0_str2, wrong_kind_v v, eqD_str]
theorem nn : eqD (.lst [.non, .non]) (.lst [.non, .non]) = some (.bl true) := rfl
theorem is_piece_halves (v : Vk ks) (v2 : Vk js) : f_is_piece [.tup [.str "halves", .tup (kd ks), .tup (kd js)]] S = .ok (.bl true) S := by
  have hc : cutL [D.str "halves", .tup (kd ks), .tup (kd js)] (some 1) none = [.tup (kd ks), .tup (kd js)] := rfl
  simp (decide := true) [f_is_piece, m_is_piece, runM_eq, inD0_str2, eqD_str, hc, lcLoop, wipeE, wrong_kind_v v, wrong_kind_v v2, nn]
theorem family_ok {d r : D} (h : f_is_piece [d] S = .ok (.bl true) S) (h2 : f_family_of [d] S = .ok r S) : f_family [d] S = .ok r S := by
  simp [f_family, m_family, runM_eq, h, h2]
end Lw

namespace Lw
open PySem PySem.Spec PyProof.Rows L2 Dg
variable {S : Sto} {d e : D} {ks js : List (Int × Int)}
/-! ### the law's own families -/
theorem lplaces_eq (h : Sq d ks) (w : Wd ks) : f__law_places [d] S = .ok (.int (pl ks)) S := places_of_eq h w
theorem lends_eq (h : Sq d ks) (w : Wd ks) : f__law_ends [d] S = .ok (.int (en ks)) S := ends_of_eq h w
theorem lopp_eq {top : Int} (w : Wd ks) : f__law_opposite [.tup (kd ks), .int top] S = .ok (.tup (kd (tur ks top))) S := by
  have hlen : (tur ks top).length ≤ 16777216 := fl (by rw [tur_len]; exact w.1)
  have hl := tur_lc (vs := []) (d := .tup (kd ks)) (S := S) (ks := ks) (top := top)
  simp [f__law_opposite, m__law_opposite, runM_eq, kd_rev, hl, hlen]
theorem lring_eq : f__law_is_rest [.str "ring", .tup (kd ks)] S = .ok (.bl (isRing ks)) S := by
  have : eqD (.tup (kd ks)) (.tup [.tup [.int 2, .int 5]]) = some (.bl (decide (ks = [(2, 5)]))) := eqD_kt (y := [(2, 5)])
  simp [f__law_is_rest, m__law_is_rest, runM_eq, eqD_str, this, isRing]
theorem lpairs_eq : f__law_is_rest [.str "pairs", .tup (kd ks)] S = .ok (.bl (isPairs ks)) S := by
  match ks with
  | [] => simp (decide := true) [f__law_is_rest, m__law_is_rest, runM_eq, eqD_str, isPairs]
  | [(a, n)] =>
    have e : decide (4 ≤ n) = decide (3 < n) := decide_eq_decide.mpr (by omega)
    simp (decide := true) [f__law_is_rest, m__law_is_rest, runM_eq, eqD_str, isPairs, e]
  | x :: y :: r =>
    have : ¬ ((r.length : Int) + 1 + 1 = 1) := by omega
    simp (decide := true) [f__law_is_rest, m__law_is_rest, runM_eq, eqD_str, isPairs, this]
theorem lstar_eq : f__law_is_rest [.str "star", .tup (kd ks)] S = .ok (.bl (isStar ks)) S := by
  match ks with
  | [] => simp (decide := true) [f__law_is_rest, m__law_is_rest, runM_eq, eqD_str, isStar]
  | [x] => simp (decide := true) [f__law_is_rest, m__law_is_rest, runM_eq, eqD_str, isStar]
  | [(g, s), (d, c)] =>
    have e : decide (2 ≤ g) = decide (1 < g) := decide_eq_decide.mpr (by omega)
    by_cases h : s = 1 <;> simp (decide := true) [f__law_is_rest, m__law_is_rest, runM_eq, eqD_str, isStar, h, e]
  | x :: y :: z :: r =>
    have : ¬ ((r.length : Int) + 1 + 1 + 1 = 2) := by omega
    simp (decide := true) [f__law_is_rest, m__law_is_rest, runM_eq, eqD_str, isStar, this]
theorem lhub_eq : f__law_is_rest [.str "hub", .tup (kd ks)] S = .ok (.bl (isHub ks)) S := by
  match ks with
  | [] => simp (decide := true) [f__law_is_rest, m__law_is_rest, runM_eq, eqD_str, isHub]
  | [x] => simp (decide := true) [f__law_is_rest, m__law_is_rest, runM_eq, eqD_str, isHub]
  | [(g, s), (d, c)] =>
    have e : decide (4 ≤ g) = decide (3 < g) := decide_eq_decide.mpr (by omega)
    by_cases h : s = 1 <;> simp (decide := true) [f__law_is_rest, m__law_is_rest, runM_eq, eqD_str, isHub, h, e]
  | x :: y :: z :: r =>
    have : ¬ ((r.length : Int) + 1 + 1 + 1 = 2) := by omega
    simp (decide := true) [f__law_is_rest, m__law_is_rest, runM_eq, eqD_str, isHub, this]
/-- the last one of the turned ones -/
theorem tur_last {t : Int} {x : Int × Int} {r : List (Int × Int)} : (tur (x :: r) t).getLast? = some (t - x.1, x.2) := by
  unfold tur
  rw [List.getLast?_reverse]
  rfl
theorem top_iff {t : Int} {x : Int × Int} {r : List (Int × Int)} : Top (x :: r) t ↔ 0 ≤ t - x.1 := by
  unfold Top
  constructor
  · intro h; have := h x rfl; omega
  · intro h y hy; cases hy; omega
theorem lfamily_rest (w : Wd ks) (n1 : ks ≠ []) (dg : ∀ x ∈ ks, 0 ≤ x.1) : f__law_family [.tup [.str "rest", .tup (kd ks)]] S = .ok (restRes ks) S := by
  have lp : ∀ S, f__law_places [.tup (kd ks)] S = .ok (.int (pl ks)) S := fun S => lplaces_eq (.inl rfl) w
  have lo : ∀ S, f__law_opposite [.tup (kd ks), .int (pl ks - 1)] S = .ok (.tup (kd (tur ks (pl ks - 1)))) S := fun S => lopp_eq w
  obtain ⟨z, hz⟩ : ∃ z, ks.getLast? = some z := by rw [List.getLast?_eq_some_getLast n1]; exact ⟨_, rfl⟩
  have z0 : 0 ≤ z.1 := dg z (List.mem_of_getLast? hz)
  obtain ⟨x, r, rfl⟩ : ∃ x r, ks = x :: r := by cases ks with | nil => exact absurd rfl n1 | cons x r => exact ⟨x, r, rfl⟩
  have la : ∀ S : Sto, ixS S (.tup (kd (x :: r))) (.int (-1)) = some (pr z) := fun S => by rw [Sq.last (.inl rfl), hz]; rfl
  have lb : ∀ S : Sto, ixS S (.tup (kd (tur (x :: r) (pl (x :: r) - 1)))) (.int (-1)) = some (pr (pl (x :: r) - 1 - x.1, x.2)) := fun S => by rw [Sq.last (.inl rfl), tur_last]; rfl
  unfold restRes curB R
  rw [show decide (Top (x :: r) (pl (x :: r) - 1)) = decide (0 ≤ pl (x :: r) - 1 - x.1) from decide_eq_decide.mpr top_iff]
  generalize tur (x :: r) (pl (x :: r) - 1) = tk at *
  generalize x :: r = ks at *
  simp (decide := true) [f__law_family, m__law_family, runM_eq, inD0_str2, eqD_str, lp, lo, la, lb, lring_eq, lpairs_eq, lstar_eq, lhub_eq, loopS_if, seqS_if, retO_if, z0, ok_if]
theorem merged_loop : ∀ {js acc : List (Int × Int)} {u v : Slot}, acc.length + js.length ≤ 1000000 → ∃ a b, forLoop (pTpA (psCons (pNm 2) (psCons (pNm 3) psNil)) 2) (sDput 1 (eVar 2) (eOp addD (eDget2 (dVar 1) (eVar 2) (eRet (.int 0))) (eVar 3))) (kd js) [.val d, .live (.dK (encK acc)), u, v] S
    = .nx [.val d, .live (.dK (encK (js.foldl stepM acc))), a, b] S
  | [], acc, u, v, _ => ⟨u, v, rfl⟩
  | x :: js, acc, u, v, h => by
    have hl : acc.length + 1 ≤ 16777216 := by simp at h; omega
    have h2 : (stepM acc x).length + js.length ≤ 1000000 := by
      have : (stepM acc x).length ≤ acc.length + 1 := put_len
      simp only [List.length_cons] at h
      omega
    obtain ⟨a, b, ih⟩ := merged_loop (js := js) (acc := stepM acc x) (u := .val (.int x.1)) (v := .val (.int x.2)) h2
    refine ⟨a, b, ?_⟩
    have hv : ((look acc x.1).map D.int).getD (.int 0) = .int ((look acc x.1).getD 0) := by cases look acc x.1 <;> rfl
    have hl' : acc.length ≤ 16777215 := by omega
    rw [List.foldl_cons, ← ih]
    simp [encK_len, hl', valD_enc, hv, putD_enc, stepM]
theorem merged_eq (h : Sq d ks) (hl : ks.length ≤ 1000) : f__law_merged [d] S = .ok (.tup (kd (mg ks))) S := by
  have it : itemsD d = some (kd ks) := h.items
  obtain ⟨a, b, e⟩ := merged_loop (d := d) (S := S) (js := ks) (acc := []) (u := .no) (v := .no) (by simp; omega)
  have len := foldM_len (ks := ks) (acc := [])
  have mgE : mg ks = ((sortI ((ks.foldl stepM []).map (·.1))).reverse.filter fun k => decide (0 < (look (ks.foldl stepM []) k).getD 0)).map fun k => (k, (look (ks.foldl stepM []) k).getD 0) := rfl
  generalize ks.foldl stepM [] = acc at *
  have hk : ∀ k ∈ (sortI (acc.map (·.1))).reverse, ∃ v, look acc k = some v := fun k hk => by
    have hk' := (sortI_perm _).mem_iff.mp (List.mem_reverse.mp hk)
    cases e : look acc k with
    | none => exact absurd hk' (look_none.mp e)
    | some v => exact ⟨v, rfl⟩
  have lc : lcLoop (pNm 2) (tOfE (eOp gtD (eDget (dVar 1) (eVar 2)) (eRet (.int 0)))) (eTup (aCons (eVar 2) (aCons (eDget (dVar 1) (eVar 2)) aNil))) [2] ((sortI (acc.map (·.1))).reverse.map D.int) [.val d, .live (.dK (encK acc)), a, b] S = .ok (kd (mg ks)) S := by
    rw [mgE, kd, List.map_map]
    refine lc_filter fun k hk' => ⟨[.val d, .live (.dK (encK acc)), .val (.int k), b], by simp [wipeE], ?_, fun _ => ?_⟩
    · obtain ⟨v, hv⟩ := hk k hk'
      simp [valD_enc, hv]
    · obtain ⟨v, hv⟩ := hk k hk'
      simp [valD_enc, pr, hv]
  have hlen : (mg ks).length ≤ 16777216 := by
    rw [mgE, List.length_map]
    refine Nat.le_trans (List.length_filter_le _ _) ?_
    rw [List.length_reverse, (sortI_perm _).length_eq, List.length_map]
    simp at len
    omega
  have e' : forLoop (pTpA (psCons (pNm 2) (psCons (pNm 3) psNil)) 2) (sDput 1 (eVar 2) (eOp addD (eDget2 (dVar 1) (eVar 2) (eRet (.int 0))) (eVar 3))) (kd ks) [.val d, .live (.dK []), .no, .no] S = .nx [.val d, .live (.dK (encK acc)), a, b] S := e
  rw [List.map_reverse] at lc
  simp [-sv_dput, f__law_merged, m__law_merged, runM_eq, it, e', intKeys_enc, lc, hlen]
/-! ### halves, the law's way -/
theorem desc_pw : ∀ {ks : List (Int × Int)}, Desc ks → ks.Pairwise fun x y => y.1 < x.1
  | [], _ => .nil
  | [x], _ => List.pairwise_singleton _ _
  | x :: y :: r, h => by
    have ih := desc_pw (ks := y :: r) h.2
    refine List.pairwise_cons.mpr ⟨fun z hz => ?_, ih⟩
    rcases List.mem_cons.mp hz with rfl | hz
    · exact h.1
    · have := (List.pairwise_cons.mp ih).1 z hz
      have := h.1
      omega
theorem pw_desc : ∀ {ks : List (Int × Int)}, (ks.Pairwise fun x y => y.1 < x.1) → Desc ks
  | [], _ => trivial
  | [x], _ => trivial
  | x :: y :: r, h => ⟨(List.pairwise_cons.mp h).1 y List.mem_cons_self, pw_desc (List.pairwise_cons.mp h).2⟩
/-- what sides may be: counts from 1 on, degrees from 0 on, descending -/
structure Sd (ks : List (Int × Int)) : Prop where
  ne : ks ≠ []
  w : Wd ks
  c : ∀ x ∈ ks, 1 ≤ x.2
  g : ∀ x ∈ ks, 0 ≤ x.1
  d : ks.Pairwise fun x y => y.1 < x.1
theorem degs_lc {a b c : Slot} {x : Str} {u v : Slot} {d1 d2 : D} : lcLoop (pTpA (psCons (pNm 5) (psCons (pNm 6) psNil)) 2) tYs (eVar 5) [5, 6] (kd js) [.val (.str x), .val d1, .val d2, u, v, .no, .no, a, b, c] S = .ok ((js.map (·.1)).map D.int) S := by
  rw [List.map_map]
  exact lc_map fun y _ => ⟨[.val (.str x), .val d1, .val d2, u, v, .val (.int y.1), .val (.int y.2), a, b, c], by simp [wipeE], by simp⟩
theorem eq_one {ns : List Int} {n : Int} : eqD (.lst (ns.map D.int)) (.lst [.int n]) = some (.bl (decide (ns = [n]))) := eqD_il (y := [n])
theorem ne_one {ns : List Int} {n : Int} : neD (.lst (ns.map D.int)) (.lst [.int n]) = some (.bl (!decide (ns = [n]))) := neD_pd (pd_il ns) (pd_il [n]) (by
  rw [PyData.list.injEq]
  constructor
  · exact fun h => (List.map_inj_right fun _ _ h => by injection h).mp h
  · exact fun h => by rw [h])
theorem lstars_eq (v : Sd ks) (v2 : Sd js) : f__law_are_halves [.str "stars", .tup (kd ks), .tup (kd js)] S = .ok (.bl (hvS ks js)) S := by
  have pa := fun S => lplaces_eq (S := S) (d := .tup (kd ks)) (.inl rfl) v.w
  have pb := fun S => lplaces_eq (S := S) (d := .tup (kd js)) (.inl rfl) v2.w
  have ea := fun S => lends_eq (S := S) (d := .tup (kd ks)) (.inl rfl) v.w
  have eb := fun S => lends_eq (S := S) (d := .tup (kd js)) (.inl rfl) v2.w
  obtain ⟨z, hz⟩ : ∃ z, ks.getLast? = some z := by rw [List.getLast?_eq_some_getLast v.ne]; exact ⟨_, rfl⟩
  have la : ∀ S : Sto, ixS S (.tup (kd ks)) (.int (-1)) = some (pr z) := fun S => by rw [Sq.last (.inl rfl), hz]; rfl
  have hj : js.length ≤ 16777216 := fl v2.w.1
  have e1 : hvS ks js = (decide (en ks = en js) && (decide (js.map (·.1) = [1]) && (decide (0 < z.1) && decide (1 < pl ks)))) := by
    unfold hvS isStars
    rw [hz]
    congr 1
    match js with
    | [] => rfl
    | [(c, n)] =>
      show (decide (c = 1) && (decide (1 ≤ z.1) && decide (2 ≤ pl ks))) = _
      rw [show decide (1 ≤ z.1) = decide (0 < z.1) from decide_eq_decide.mpr (by omega), show decide (2 ≤ pl ks) = decide (1 < pl ks) from decide_eq_decide.mpr (by omega)]
      simp
    | x :: y :: r => simp
  rw [e1]
  by_cases c : en ks = en js
  · simp [-List.map_map, f__law_are_halves, m__law_are_halves, runM_eq, pa, pb, ea, eb, c, eqD_str, degs_lc, hj, eq_one, la]
  · simp [f__law_are_halves, m__law_are_halves, runM_eq, pa, pb, ea, eb, c]
theorem oth_len {g : Int} : (oth g js).length ≤ js.length := List.length_filter_le _ _
theorem oth_pl : ∀ {js : List (Int × Int)}, en js = en (oth 1 js) + (pl js - pl (oth 1 js))
  | [] => rfl
  | x :: js => by
    have ih := oth_pl (js := js)
    unfold oth en pl at *
    by_cases c : x.1 = 1
    · rw [List.filter_cons_of_neg (by simp [c])]
      simp only [List.map_cons, List.sum_cons, c]
      omega
    · rw [List.filter_cons_of_pos (by simp [c])]
      simp only [List.map_cons, List.sum_cons]
      omega
def lawB (a : Int) (ks o : List (Int × Int)) : Bool := match ks, o with
  | [(g, _)], [(s, m)] => decide (2 ≤ g) && (decide (m = 1) && (decide (1 < s) && decide (s < a)))
  | _, _ => false
theorem hvB_law (c : en ks = en js) : hvB ks js = lawB (pl ks) ks (oth 1 js) := by
  unfold hvB isBridge
  rw [decide_eq_true c, Bool.true_and]
  have op := oth_pl (js := js)
  rw [← c] at op
  generalize oth 1 js = o at op
  match ks, o with
  | [], o => rfl
  | x :: y :: r, o => rfl
  | [(a, n)], [] => rfl
  | [(a, n)], x :: y :: r => simp [lawB]
  | [(a, n)], [(s, m)] =>
    unfold lawB
    by_cases hm : m = 1
    · subst hm
      simp only [pl, en, List.map_cons, List.map_nil, List.sum_cons, List.sum_nil, Int.mul_one, Int.add_zero] at op ⊢
      by_cases h2 : 2 ≤ a
      · by_cases h3 : 2 ≤ s
        · by_cases h4 : s ≤ n - 1
          · have hn : 3 ≤ n := by omega
            have : 2 * n ≤ a * n := Int.mul_le_mul_of_nonneg_right h2 (by omega)
            have h5 : 1 < (js.map fun x => x.2).sum := by omega
            have h6 : 1 < s := by omega
            have h7 : s < n := by omega
            simp [h2, h3, h4, h5, h6, h7]
          · have h7 : ¬ s < n := by omega
            simp [h4, h7]
        · have h6 : ¬ 1 < s := by omega
          simp [h3, h6]
      · simp [h2]
    · split
      · rename_i hh; simp at hh; exact absurd hh.2 hm
      · simp [hm]
theorem lbridge_eq (v : Sd ks) (v2 : Sd js) : f__law_are_halves [.str "bridge", .tup (kd ks), .tup (kd js)] S = .ok (.bl (hvB ks js)) S := by
  have pa := fun S => lplaces_eq (S := S) (d := .tup (kd ks)) (.inl rfl) v.w
  have pb := fun S => lplaces_eq (S := S) (d := .tup (kd js)) (.inl rfl) v2.w
  have ea := fun S => lends_eq (S := S) (d := .tup (kd ks)) (.inl rfl) v.w
  have eb := fun S => lends_eq (S := S) (d := .tup (kd js)) (.inl rfl) v2.w
  have lc : ∀ S, lcLoop (pNm 7) (tOfE (eOp neD (eOpS ixS (eVar 7) (eRet (.int 0))) (eRet (.int 1)))) (eVar 7) [7] (kd js) [.val (.str "bridge"), .val (.tup (kd ks)), .val (.tup (kd js)), .val (.int (pl ks)), .val (.int (pl js)), .no, .no, .no, .no, .no] S = .ok (kd (oth 1 js)) S := fun S =>
    lc_filter fun x _ => ⟨[.val (.str "bridge"), .val (.tup (kd ks)), .val (.tup (kd js)), .val (.int (pl ks)), .val (.int (pl js)), .no, .no, .val (pr x), .no, .no], by simp [wipeE], by simp, fun _ => by simp⟩
  have hj : (oth 1 js).length ≤ 16777216 := fl (Nat.le_trans oth_len v2.w.1)
  by_cases c : en ks = en js
  · rw [hvB_law c]
    have ne := v.ne
    have hn : itemsD (.tup (kd js)) = some (kd js) := rfl
    generalize oth 1 js = o at lc hj
    generalize pl ks = A at *
    generalize pl js = B at *
    generalize en ks = EA at *
    generalize en js = EB at *
    clear v v2
    generalize kd js = kj at *
    unfold lawB
    match ks, o with
    | [], o => exact absurd rfl ne
    | x :: y :: r, o =>
      have : ¬ ((r.length : Int) + 1 + 1 = 1) := by omega
      simp only [kd_cons] at *
      simp (decide := true) [f__law_are_halves, m__law_are_halves, runM_eq, pa, pb, ea, eb, c, eqD_str, lc, hj, this]
    | [(a, n)], [] =>
      simp only [kd_cons, kd_nil] at *
      by_cases h2 : a < 2 <;> simp (decide := true) [f__law_are_halves, m__law_are_halves, runM_eq, pa, pb, ea, eb, c, eqD_str, lc, h2]
    | [(a, n)], x :: y :: r =>
      have : ¬ ((r.length : Int) + 1 + 1 = 1) := by omega
      have hl3 : r.length ≤ 16777214 := by simp at hj; omega
      simp only [kd_cons, kd_nil] at *
      by_cases h2 : a < 2 <;> simp (decide := true) [f__law_are_halves, m__law_are_halves, runM_eq, pa, pb, ea, eb, c, eqD_str, lc, h2, this, hl3]
    | [(a, n)], [(s, m)] =>
      simp only [kd_cons, kd_nil] at *
      by_cases h2 : a < 2
      · have h3 : ¬ 2 ≤ a := by omega
        simp (decide := true) [f__law_are_halves, m__law_are_halves, runM_eq, pa, pb, ea, eb, c, eqD_str, lc, h2, h3]
      · have h3 : 2 ≤ a := by omega
        by_cases hm : m = 1 <;> simp (decide := true) [f__law_are_halves, m__law_are_halves, runM_eq, pa, pb, ea, eb, c, eqD_str, lc, h2, h3, hm]
  · have hb : hvB ks js = false := by unfold hvB; rw [decide_eq_false c]; rfl
    rw [hb]
    simp [f__law_are_halves, m__law_are_halves, runM_eq, pa, pb, ea, eb, c]
def lawRest (b : Int) (ks : List (Int × Int)) : List (Int × Int) := if b - 1 ∈ ks.map (·.1) then mg (ks ++ [(b - 1, -1)]) else []
def lawC (ks js : List (Int × Int)) : Bool := decide (js.map (·.1) = [2]) && (!decide (pl ks < 4) && (match lawRest (pl js) ks with
  | [(x, _)] => decide (1 < x)
  | _ => false))
theorem ne22 : neD (.lst [.int 2]) (.lst [.int 2]) = some (.bl false) := by simpa using ne_one (ns := [2]) (n := 2)
theorem lcrown0 (v : Sd ks) (v2 : Sd js) (hl : ks.length ≤ 900) : f__law_are_halves [.str "crown", .tup (kd ks), .tup (kd js)] S = .ok (.bl (decide (en ks = en js) && lawC ks js)) S := by
  have pa := fun S => lplaces_eq (S := S) (d := .tup (kd ks)) (.inl rfl) v.w
  have pb := fun S => lplaces_eq (S := S) (d := .tup (kd js)) (.inl rfl) v2.w
  have ea := fun S => lends_eq (S := S) (d := .tup (kd ks)) (.inl rfl) v.w
  have eb := fun S => lends_eq (S := S) (d := .tup (kd js)) (.inl rfl) v2.w
  have hk : ks.length ≤ 16777216 := fl v.w.1
  have hj : js.length ≤ 16777216 := fl v2.w.1
  have h1 : ks.length + 1 ≤ 16777216 := by omega
  have m : ∀ S, f__law_merged [.lst (kd ks ++ [.tup [.int (pl js - 1), .int (-1)]])] S = .ok (.tup (kd (mg (ks ++ [(pl js - 1, -1)])))) S := fun S =>
    merged_eq (d := .lst (kd ks ++ [.tup [.int (pl js - 1), .int (-1)]])) (ks := ks ++ [(pl js - 1, -1)]) (.inr (by simp [kd, pr])) (by simp; omega)
  by_cases c : en ks = en js
  · unfold lawC lawRest
    by_cases h : pl js - 1 ∈ ks.map (·.1)
    · rw [if_pos h]
      generalize mg (ks ++ [(pl js - 1, -1)]) = r at *
      by_cases e1 : js.map (·.1) = [2]
      · by_cases e2 : pl ks < 4
        · simp (decide := true) [-List.map_map, f__law_are_halves, m__law_are_halves, runM_eq, pa, pb, ea, eb, c, eqD_str, degs_lc, hj, hk, ne_one, ne22, inD0_int, h, addD, h1, m, e1, e2]
        · match r with
          | [] => simp (decide := true) [-List.map_map, f__law_are_halves, m__law_are_halves, runM_eq, pa, pb, ea, eb, c, eqD_str, degs_lc, hj, hk, ne_one, ne22, inD0_int, h, addD, h1, m, e1, e2]
          | [(x, y)] => simp (decide := true) [-List.map_map, f__law_are_halves, m__law_are_halves, runM_eq, pa, pb, ea, eb, c, eqD_str, degs_lc, hj, hk, ne_one, ne22, inD0_int, h, addD, h1, m, e1, e2]
          | x :: y :: r =>
            have : ¬ ((r.length : Int) + 1 + 1 = 1) := by omega
            simp (decide := true) [-List.map_map, f__law_are_halves, m__law_are_halves, runM_eq, pa, pb, ea, eb, c, eqD_str, degs_lc, hj, hk, ne_one, ne22, inD0_int, h, addD, h1, m, e1, e2, this]
      · simp (decide := true) [-List.map_map, f__law_are_halves, m__law_are_halves, runM_eq, pa, pb, ea, eb, c, eqD_str, degs_lc, hj, hk, ne_one, ne22, inD0_int, h, addD, h1, m, e1]
    · rw [if_neg h]
      by_cases e1 : js.map (·.1) = [2] <;> by_cases e2 : pl ks < 4 <;>
        simp (decide := true) [-List.map_map, f__law_are_halves, m__law_are_halves, runM_eq, pa, pb, ea, eb, c, eqD_str, degs_lc, hj, hk, ne_one, ne22, inD0_int, h, e1, e2]
  · simp [f__law_are_halves, m__law_are_halves, runM_eq, pa, pb, ea, eb, c]
theorem lawC_eq (v : Sd ks) (c : en ks = en js) : lawC ks js = isCrown ks js := by
  unfold lawC isCrown
  match js, c with
  | [], _ => simp
  | x :: y :: r, _ => simp
  | [(e, b)], c =>
    by_cases he : e = 2
    · subst he
      simp only [pl, en, List.map_cons, List.map_nil, List.sum_cons, List.sum_nil, Int.add_zero, decide_true, Bool.true_and] at c ⊢
      by_cases h4 : (ks.map fun x => x.2).sum < 4
      · have : ¬ 4 ≤ (ks.map fun x => x.2).sum := by omega
        simp [h4, this]
      · have h4' : 4 ≤ (ks.map fun x => x.2).sum := by omega
        simp only [h4, h4', decide_true, decide_false, Bool.not_false, Bool.true_and]
        unfold lawRest
        obtain ⟨ne, w, cc, g, dd⟩ := v
        rcases ks with _ | ⟨⟨a, n⟩, _ | ⟨⟨u, m⟩, _ | ⟨z, r⟩⟩⟩
        · exact absurd rfl ne
        · skip
          simp at h4'
          by_cases q : b - 1 = a
          · subst q
            rw [if_pos (by simp), mg_dec dd (by simp)]
            have : 0 < n - 1 := by omega
            have this' : 1 < n := by omega
            have e2 : (1 < b - 1) ↔ 2 < b := by omega
            simp [List.filter_cons, this, this', e2]
          · rw [if_neg (by simpa using q)]
            have : ¬ a = b - 1 := fun z => q z.symm
            simp [this]
        · skip
          have hn := cc (a, n) (by simp)
          have hm := cc (u, m) (by simp)
          have hu := g (u, m) (by simp)
          have hau : u < a := (List.pairwise_cons.mp dd).1 (u, m) (by simp)
          simp at h4' hn hm hu
          simp only [List.map_cons, List.map_nil, List.sum_cons, List.sum_nil, Int.add_zero] at c
          by_cases q : b - 1 = a
          · subst q
            rw [if_pos (by simp), mg_dec dd (by simp)]
            have nu : ¬ u = b - 1 := by omega
            have nu2 : ¬ b - 1 = u := by omega
            have m0 : 0 < m := by omega
            have e2 : 2 ≤ u ↔ 1 < u := by omega
            by_cases q1 : n = 1
            · subst q1
              by_cases q2 : m = 1 <;> simp [List.filter_cons, nu, nu2, m0, e2, q2]
            · have : 0 < n - 1 := by omega
              have this' : 1 < n := by omega
              by_cases q2 : m = 1 <;> simp [List.filter_cons, this', nu, nu2, m0, q1, this, q2]
          · by_cases q' : b - 1 = u
            · subst q'
              rw [if_pos (by simp), mg_dec dd (by simp)]
              have na : ¬ a = b - 1 := by omega
              have na2 : ¬ b - 1 = a := by omega
              have n0 : 0 < n := by omega
              by_cases q2 : m = 1
              · subst q2
                by_cases q3 : 2 ≤ b - 1
                · have : 1 < a := by omega
                  by_cases q1 : n = 1 <;> simp [List.filter_cons, na, na2, n0, q3, this, q1]
                · exfalso
                  have n3 : 3 ≤ n := by omega
                  have : (b - 1 + 1) * 3 ≤ a * n := Int.mul_le_mul (by omega) n3 (by omega) (by omega)
                  omega
              · have : 0 < m - 1 := by omega
                have this' : 1 < m := by omega
                by_cases q1 : n = 1 <;> simp [List.filter_cons, this', na, na2, n0, q2, this, q1]
            · rw [if_neg (by simp [q, q'])]
              by_cases q1 : n = 1 <;> by_cases q2 : m = 1 <;> simp [q, q', q1, q2]
        · generalize hx : (a, n) = x at *
          generalize hy : (u, m) = y at *
          have hxy : y.1 < x.1 := (List.pairwise_cons.mp dd).1 y (by simp)
          have hxz : z.1 < x.1 := (List.pairwise_cons.mp dd).1 z (by simp)
          have hyz : z.1 < y.1 := (List.pairwise_cons.mp (List.pairwise_cons.mp dd).2).1 z (by simp)
          have stay : ∀ p ∈ x :: y :: z :: r, p.1 ≠ b - 1 → b - 1 ∈ (x :: y :: z :: r).map (·.1) → p ∈ mg (x :: y :: z :: r ++ [(b - 1, -1)]) := fun p hp hne hg => by
            rw [mg_dec dd hg]
            refine List.mem_filter.mpr ⟨List.mem_map.mpr ⟨p, hp, by simp [hne]⟩, ?_⟩
            have := cc p hp
            simp
            omega
          by_cases q : b - 1 ∈ (x :: y :: z :: r).map (·.1)
          · rw [if_pos q]
            split
            · rename_i p1 p2 hr
              exfalso
              rw [hr] at stay
              have one : ∀ p ∈ x :: y :: z :: r, p.1 ≠ b - 1 → p = (p1, p2) := fun p hp hne => by simpa using stay p hp hne q
              by_cases a1 : x.1 = b - 1
              · have e1 := one y (by simp) (by omega)
                have e2 := one z (by simp) (by omega)
                rw [e1, e2] at hyz
                omega
              · have e1 := one x (by simp) a1
                by_cases a2 : y.1 = b - 1
                · have e2 := one z (by simp) (by omega)
                  rw [e1, e2] at hxz
                  omega
                · have e2 := one y (by simp) a2
                  rw [e1, e2] at hxy
                  omega
            · rfl
          · rw [if_neg q]
    · simp [he]
theorem lcrown_eq (v : Sd ks) (v2 : Sd js) (hl : ks.length ≤ 900) : f__law_are_halves [.str "crown", .tup (kd ks), .tup (kd js)] S = .ok (.bl (hvC ks js)) S := by
  rw [lcrown0 v v2 hl]
  unfold hvC
  by_cases c : en ks = en js
  · rw [lawC_eq v c]
  · simp [c]
end Lw

namespace Lw
open PySem PySem.Spec PyProof.Rows L2 Dg
variable {S : Sto} {d e : D} {ks js : List (Int × Int)}
theorem in03 {k : Int} {l : Bool} : inD0 false (.int k) (l, [.int 0, .int 3]) = some (.bl (false != decide (k ∈ [0, 3]))) := inD0_int (ns := [0, 3])
theorem lread0 : f__law_read [.tup [.tup (kd ks), .tup (kd js)], .int 0] S = .ok (two (.tup (kd ks)) (.tup (kd js))) S := by
  simp (decide := true) [f__law_read, m__law_read, runM_eq, in03, two]
theorem lread1 : f__law_read [.tup [.tup (kd ks), .tup (kd js)], .int 1] S = .ok (two (.tup (kd js)) (.tup (kd ks))) S := by
  simp (decide := true) [f__law_read, m__law_read, runM_eq, in03, two]
theorem lread2 (w : Wd ks) (w2 : Wd js) : f__law_read [.tup [.tup (kd ks), .tup (kd js)], .int 2] S = .ok (two (.tup (kd (tur js (pl ks)))) (.tup (kd (tur ks (pl js))))) S := by
  have pa := fun S => lplaces_eq (S := S) (d := .tup (kd ks)) (.inl rfl) w
  have pb := fun S => lplaces_eq (S := S) (d := .tup (kd js)) (.inl rfl) w2
  have oa := fun S => lopp_eq (S := S) (top := pl js) w
  have ob := fun S => lopp_eq (S := S) (top := pl ks) w2
  simp (decide := true) [f__law_read, m__law_read, runM_eq, in03, two, pa, pb, oa, ob]
theorem lread3 (w : Wd ks) (w2 : Wd js) : f__law_read [.tup [.tup (kd ks), .tup (kd js)], .int 3] S = .ok (two (.tup (kd (tur ks (pl js)))) (.tup (kd (tur js (pl ks))))) S := by
  have pa := fun S => lplaces_eq (S := S) (d := .tup (kd ks)) (.inl rfl) w
  have pb := fun S => lplaces_eq (S := S) (d := .tup (kd js)) (.inl rfl) w2
  have oa := fun S => lopp_eq (S := S) (top := pl js) w
  have ob := fun S => lopp_eq (S := S) (top := pl ks) w2
  simp (decide := true) [f__law_read, m__law_read, runM_eq, in03, two, pa, pb, oa, ob]
theorem Sd.tur {t : Int} (v : Sd ks) (ht : Top ks t) (hb : t < 2 ^ 1000) : Sd (Lw.tur ks t) := by
  have all : ∀ x ∈ ks, x.1 ≤ t := fun x hx => by
    cases ks with
    | nil => cases hx
    | cons y r =>
      have h0 := ht y rfl
      rcases List.mem_cons.mp hx with rfl | hx
      · exact h0
      · have := (List.pairwise_cons.mp v.d).1 x hx
        omega
  have mem : ∀ x ∈ Lw.tur ks t, ∃ y ∈ ks, x = (t - y.1, y.2) := fun x hx => by
    unfold Lw.tur at hx
    obtain ⟨y, hy, rfl⟩ := List.mem_map.mp (List.mem_reverse.mp hx)
    exact ⟨y, hy, rfl⟩
  refine ⟨fun z => v.ne (List.length_eq_zero_iff.mp (by rw [← tur_len (top := t), z]; rfl)), ⟨by rw [tur_len]; exact v.w.1, fun x hx => ?_⟩, fun x hx => ?_, fun x hx => ?_, ?_⟩
  · obtain ⟨y, hy, rfl⟩ := mem x hx
    have h1 := all y hy
    have h2 := v.g y hy
    have h3 := (v.w.2 y hy).2
    exact ⟨by simp only; omega, h3⟩
  · obtain ⟨y, hy, rfl⟩ := mem x hx
    exact v.c y hy
  · obtain ⟨y, hy, rfl⟩ := mem x hx
    have := all y hy
    simp only
    omega
  · unfold Lw.tur
    rw [List.pairwise_reverse, List.pairwise_map]
    exact v.d.imp fun h => by simp only; omega
theorem both_iff {x y : Int × Int} {r q : List (Int × Int)} : Both (x :: r) (y :: q) ↔ 0 ≤ pl (y :: q) - x.1 ∧ 0 ≤ pl (x :: r) - y.1 := by
  unfold Both
  rw [top_iff, top_iff]
theorem last_ge (v : Sd ks) : ∃ z : Int × Int, (∀ S : Sto, ixS S (.tup (kd ks)) (.int (-1)) = some (pr z)) ∧ 0 ≤ z.1 := by
  obtain ⟨z, hz⟩ : ∃ z, ks.getLast? = some z := by rw [List.getLast?_eq_some_getLast v.ne]; exact ⟨_, rfl⟩
  exact ⟨z, fun S => by rw [Sq.last (.inl rfl), hz]; rfl, v.g z (List.mem_of_getLast? hz)⟩
theorem lfamily_halves (v : Sd ks) (v2 : Sd js) (l1 : ks.length ≤ 900) (l2 : js.length ≤ 900) (b1 : pl ks < 2 ^ 1000) (b2 : pl js < 2 ^ 1000) :
    f__law_family [.tup [.str "halves", .tup (kd ks), .tup (kd js)]] S = .ok (halfRes ks js (decide (Both ks js)) (tur ks (pl js)) (tur js (pl ks))) S := by
  have r0 : ∀ S, f__law_read [.tup [.tup (kd ks), .tup (kd js)], .int 0] S = _ := fun S => lread0
  have r1 : ∀ S, f__law_read [.tup [.tup (kd ks), .tup (kd js)], .int 1] S = _ := fun S => lread1
  have r2 : ∀ S, f__law_read [.tup [.tup (kd ks), .tup (kd js)], .int 2] S = _ := fun S => lread2 v.w v2.w
  have r3 : ∀ S, f__law_read [.tup [.tup (kd ks), .tup (kd js)], .int 3] S = _ := fun S => lread3 v.w v2.w
  obtain ⟨z1, la1, z1p⟩ := last_ge v
  obtain ⟨z2, la2, z2p⟩ := last_ge v2
  have a1 : ∀ S, f__law_are_halves [.str "stars", .tup (kd ks), .tup (kd js)] S = .ok (.bl (hvS ks js)) S := fun S => lstars_eq v v2
  have a2 : ∀ S, f__law_are_halves [.str "stars", .tup (kd js), .tup (kd ks)] S = .ok (.bl (hvS js ks)) S := fun S => lstars_eq v2 v
  have c1 : ∀ S, f__law_are_halves [.str "bridge", .tup (kd ks), .tup (kd js)] S = .ok (.bl (hvB ks js)) S := fun S => lbridge_eq v v2
  have c2 : ∀ S, f__law_are_halves [.str "bridge", .tup (kd js), .tup (kd ks)] S = .ok (.bl (hvB js ks)) S := fun S => lbridge_eq v2 v
  have e1 : ∀ S, f__law_are_halves [.str "crown", .tup (kd ks), .tup (kd js)] S = .ok (.bl (hvC ks js)) S := fun S => lcrown_eq v v2 l1
  have e2 : ∀ S, f__law_are_halves [.str "crown", .tup (kd js), .tup (kd ks)] S = .ok (.bl (hvC js ks)) S := fun S => lcrown_eq v2 v l2
  have rg : (List.range 4).map (fun i : Nat => D.int (i : Int)) = [.int 0, .int 1, .int 2, .int 3] := rfl
  have rb : rngB 4 = true := by decide
  obtain ⟨x, r, hx⟩ : ∃ x r, ks = x :: r := by cases ks with | nil => exact absurd rfl v.ne | cons x r => exact ⟨x, r, rfl⟩
  obtain ⟨y, q, hy⟩ : ∃ y q, js = y :: q := by cases js with | nil => exact absurd rfl v2.ne | cons y q => exact ⟨y, q, rfl⟩
  have lb1 : ∀ S : Sto, ixS S (.tup (kd (tur ks (pl js)))) (.int (-1)) = some (pr (pl js - x.1, x.2)) := fun S => by rw [Sq.last (.inl rfl), hx, tur_last]; rfl
  have lb2 : ∀ S : Sto, ixS S (.tup (kd (tur js (pl ks)))) (.int (-1)) = some (pr (pl ks - y.1, y.2)) := fun S => by rw [Sq.last (.inl rfl), hy, tur_last]; rfl
  have bi : Both ks js ↔ 0 ≤ pl js - x.1 ∧ 0 ≤ pl ks - y.1 := by rw [hx, hy]; exact both_iff
  by_cases c : Both ks js
  · have w3 := v.tur c.1 b2
    have w4 := v2.tur c.2 b1
    have l3 : (tur ks (pl js)).length ≤ 900 := by rw [tur_len]; exact l1
    have l4 : (tur js (pl ks)).length ≤ 900 := by rw [tur_len]; exact l2
    obtain ⟨p1, p2⟩ := bi.mp c
    generalize tur ks (pl js) = ti at *
    generalize tur js (pl ks) = to at *
    have a3 : ∀ S, f__law_are_halves [.str "stars", .tup (kd to), .tup (kd ti)] S = .ok (.bl (hvS to ti)) S := fun S => lstars_eq w4 w3
    have a4 : ∀ S, f__law_are_halves [.str "stars", .tup (kd ti), .tup (kd to)] S = .ok (.bl (hvS ti to)) S := fun S => lstars_eq w3 w4
    have c3 : ∀ S, f__law_are_halves [.str "bridge", .tup (kd to), .tup (kd ti)] S = .ok (.bl (hvB to ti)) S := fun S => lbridge_eq w4 w3
    have c4 : ∀ S, f__law_are_halves [.str "bridge", .tup (kd ti), .tup (kd to)] S = .ok (.bl (hvB ti to)) S := fun S => lbridge_eq w3 w4
    have e3 : ∀ S, f__law_are_halves [.str "crown", .tup (kd to), .tup (kd ti)] S = .ok (.bl (hvC to ti)) S := fun S => lcrown_eq w4 w3 l4
    have e4 : ∀ S, f__law_are_halves [.str "crown", .tup (kd ti), .tup (kd to)] S = .ok (.bl (hvC ti to)) S := fun S => lcrown_eq w3 w4 l3
    generalize pl js - x.1 = u1 at *
    generalize pl ks - y.1 = u2 at *
    clear hx hy bi
    simp (decide := true) [f__law_family, m__law_family, runM_eq, inD0_str2, eqD_str, rg, rb, r0, r1, r2, r3, two, la1, la2, lb1, lb2, z1p, z2p, p1, p2, a1, a2, a3, a4, c1, c2, c3, c4, e1, e2, e3, e4, c, loopS_if, seqS_if, retO_if, halfRes, R, ok_if]
  · have p12 : (decide (0 ≤ pl js - x.1) && decide (0 ≤ pl ks - y.1)) = false := by
      rw [Bool.and_eq_false_iff]
      by_cases p : 0 ≤ pl js - x.1
      · right; exact decide_eq_false fun z => c (bi.mpr ⟨p, z⟩)
      · left; exact decide_eq_false p
    have p21 : (decide (0 ≤ pl ks - y.1) && decide (0 ≤ pl js - x.1)) = false := by rw [Bool.and_comm]; exact p12
    generalize tur ks (pl js) = ti at *
    generalize tur js (pl ks) = to at *
    generalize pl js - x.1 = u1 at *
    generalize pl ks - y.1 = u2 at *
    clear hx hy bi
    by_cases p1 : 0 ≤ u1
    · have p2 : ¬ 0 ≤ u2 := fun z => by simp [p1, z] at p12
      simp (decide := true) [f__law_family, m__law_family, runM_eq, inD0_str2, eqD_str, rg, rb, r0, r1, r2, r3, two, la1, la2, lb1, lb2, z1p, z2p, p1, p2, a1, a2, c1, c2, e1, e2, c, loopS_if, seqS_if, retO_if, halfRes, R, ok_if]
    · simp (decide := true) [f__law_family, m__law_family, runM_eq, inD0_str2, eqD_str, rg, rb, r0, r1, r2, r3, two, la1, la2, lb1, lb2, z1p, z2p, p1, a1, a2, c1, c2, e1, e2, c, loopS_if, seqS_if, retO_if, halfRes, R, ok_if]
      try (by_cases p2 : 0 ≤ u2 <;> simp [p2, loopS_if, seqS_if, retO_if, ok_if])
theorem lfamily_word {x : Str} {n : Int} (hx : x = "alone" ∨ x = "tied") : f__law_family [.tup [.str x, .int n]] S = .ok (R x "plain") S := by
  rcases hx with rfl | rfl <;> simp (decide := true) [f__law_family, m__law_family, runM_eq, inD0_str2, R]
end Lw

namespace Lw
open PySem PySem.Spec PyProof.Rows L2 Dg
/-! ### drawing -/
def Wl (S : Sto) (k : Nat) : Prop := ∃ a b c : Int, S[k]? = some (.lst [.int a, .int b, .int c])
theorem sto_set {S : Sto} {k : Nat} {o : MObj} (h : k < S.length) : (S.set k o)[k]? = some o := by rw [List.getElem?_set_self h]
theorem draw_ok {S : Sto} {k : Nat} {m : Int} (w : Wl S k) (h0 : 0 < m) (h1 : m < 1073741824) : ∃ v S', f__law_draw [.hnd k, .int m] S = .ok (.int v) S' ∧ 0 ≤ v ∧ v < m ∧ Wl S' k := by
  obtain ⟨a, b, c, hS⟩ := w
  have hk : k < S.length := (List.getElem?_eq_some_iff.mp hS).1
  have s0 : stoL S k = some [.int a, .int b, .int c] := by simp [stoL, hS]
  have i2 : ixN 3 2 = some 2 := rfl
  have i1 : ixN 3 1 = some 1 := rfl
  have i0 : ixN 3 0 = some 0 := rfl
  by_cases c0 : 0 < c
  · refine ⟨c % m, S.set k (.lst [.int a, .int b, .int (c / m)]), ?_, Int.emod_nonneg _ (by omega), Int.emod_lt_of_pos _ h0, a, b, c / m, sto_set hk⟩
    simp [f__law_draw, m__law_draw, runM_eq, s0, c0, h0, h1, p2Sub, hndS, i2]
  · let S1 : Sto := S.set k (.lst [.int a, .int (b + 1), .int c])
    have hk1 : k < S1.length := by show k < (S.set k _).length; rw [List.length_set]; exact hk
    have s1 : stoL S1 k = some [.int a, .int (b + 1), .int c] := by simp [S1, stoL, hk]
    let a' : Int := (a * 44017 + (b + 1) * 52009 + 53) % 2147483629
    let S2 : Sto := S1.set k (.lst [.int a', .int (b + 1), .int c])
    have s2 : stoL S2 k = some [.int a', .int (b + 1), .int c] := by simp only [S2, stoL, sto_set hk1]
    refine ⟨a' / 2048 % m, S2, ?_, Int.emod_nonneg _ (by omega), Int.emod_lt_of_pos _ h0, a', b + 1, c, sto_set hk1⟩
    have m1 : mulOk a 44017 = true := mulOk_r (by decide)
    have m2 : mulOk (b + 1) 52009 = true := mulOk_r (by decide)
    have e1 : S.set k (.lst [.int a, .int (b + 1), .int c]) = S1 := rfl
    have e2 : S1.set k (.lst [.int ((a * 44017 + (b + 1) * 52009 + 53) % 2147483629), .int (b + 1), .int c]) = S2 := rfl
    simp [f__law_draw, m__law_draw, runM_eq, s0, c0, h0, p2Sub, hndS, i1, e1, s1, m1, m2, i0, e2, s2, a']
theorem pick_ok {S : Sto} {k : Nat} {ds : List D} (w : Wl S k) (hn : ds ≠ []) (hl : ds.length ≤ 1000) : ∃ d S', f__law_pick [.hnd k, .lst ds] S = .ok d S' ∧ d ∈ ds ∧ Wl S' k := by
  have h0 : 0 < (ds.length : Int) := by have := List.length_pos_iff.mpr hn; omega
  obtain ⟨v, S', h1, h2, h3, h4⟩ := draw_ok (m := ds.length) w h0 (by omega)
  have hv : v.toNat < ds.length := by omega
  refine ⟨ds[v.toNat], S', ?_, List.getElem_mem _, h4⟩
  have ha : atI ds v = some ds[v.toNat] := by rw [atI_nat h2, List.getElem?_eq_getElem hv]
  simp [f__law_pick, m__law_pick, runM_eq, h1, ha]
theorem great_ok {S : Sto} {k : Nat} (w : Wl S k) : ∃ v S', f__law_great [.hnd k] S = .ok (.int v) S' ∧ 0 ≤ v ∧ v < 10 ^ 27 ∧ Wl S' k := by
  obtain ⟨n, S1, h1, h2, h3, w1⟩ := draw_ok (m := 9) w (by decide) (by decide)
  have rb : rngB (1 + n) = true := rngB_of (by omega) (by omega)
  obtain ⟨e, S2, hl, f, t, rfl, f0, f1, w2⟩ := fl_inv (p := pNm 2) (m := sSet 1 (vE (eOp addD (eOp mulD (eRet (.int 1000)) (eVar 1)) (eCall 2 f__law_draw (aCons (eVar 0) (aCons (eRet (.int 1000)) aNil))))))
    (I := fun i e S => ∃ (f : Int) (t : Slot), e = [.val (.hnd k), .val (.int f), t] ∧ 0 ≤ f ∧ f < 1000 ^ i ∧ Wl S k) (ds := (List.range (1 + n).toNat).map fun i => .int ((i : Nat) : Int)) (env := [.val (.hnd k), .val (.int 0), .no]) (S := S1)
    (fun i d env S hd ⟨f, t, he, f0, f1, w⟩ => by
      subst he
      obtain ⟨v, S', q1, q2, q3, q4⟩ := draw_ok (m := 1000) w (by decide) (by decide)
      have mm : mulOk 1000 f = true := mulOk_l (by decide)
      refine ⟨[.val (.hnd k), .val (.int f), .val d], [.val (.hnd k), .val (.int (1000 * f + v)), .val d], S', by simp, .inl ?_, 1000 * f + v, .val d, rfl, by omega, ?_, q4⟩
      · simp [mm, q1]
      · rw [Int.pow_succ]; omega) ⟨0, .no, rfl, by decide, by decide, w1⟩
  refine ⟨f, S2, ?_, f0, ?_, w2⟩
  · simp [f__law_great, m__law_great, runM_eq, h1, rb, hl]
  · have hle : ((List.range (1 + n).toNat).map fun i => D.int ((i : Nat) : Int)).length ≤ 9 := by
      rw [List.length_map, List.length_range]
      omega
    have hp : (1000 : Int) ^ ((List.range (1 + n).toNat).map fun i => D.int ((i : Nat) : Int)).length ≤ 1000 ^ 9 := by exact_mod_cast Nat.pow_le_pow_right (n := 1000) (by decide) hle
    have e9 : (1000 : Int) ^ 9 = 10 ^ 27 := by decide
    omega
theorem size_ok {S : Sto} {k : Nat} (w : Wl S k) : ∃ v S', f__law_size [.hnd k] S = .ok (.int v) S' ∧ 0 ≤ v ∧ v < 10 ^ 27 ∧ Wl S' k := by
  obtain ⟨n, S1, h1, h2, h3, w1⟩ := draw_ok (m := 9) w (by decide) (by decide)
  obtain ⟨g, S2, g1, g2, g3, w2⟩ := great_ok w1
  obtain ⟨d, S3, d1, d2, w3⟩ := pick_ok (ds := [.int 0, .int 1, .int 2, .int n, .int g]) w2 (by simp) (by simp)
  have : ∃ v : Int, d = .int v ∧ 0 ≤ v ∧ v < 10 ^ 27 := by
    simp at d2
    rcases d2 with rfl | rfl | rfl | rfl | rfl
    · exact ⟨0, rfl, by decide, by decide⟩
    · exact ⟨1, rfl, by decide, by decide⟩
    · exact ⟨2, rfl, by decide, by decide⟩
    · exact ⟨n, rfl, h2, by omega⟩
    · exact ⟨g, rfl, g2, g3⟩
  obtain ⟨v, rfl, v0, v1⟩ := this
  refine ⟨v, S3, ?_, v0, v1, w3⟩
  simp [f__law_size, m__law_size, runM_eq, h1, g1, d1]
/-! ### drawn pieces -/
theorem pl_tur {ks : List (Int × Int)} {t : Int} : pl (tur ks t) = pl ks := by
  unfold pl tur
  rw [List.map_reverse, List.map_map, List.sum_reverse]
  rfl
theorem Sd.top_all {ks : List (Int × Int)} {t : Int} (v : Sd ks) (ht : Top ks t) : ∀ x ∈ ks, x.1 ≤ t := fun x hx => by
  cases ks with
  | nil => cases hx
  | cons y r =>
    have h0 := ht y rfl
    rcases List.mem_cons.mp hx with rfl | hx
    · exact h0
    · have := (List.pairwise_cons.mp v.d).1 x hx
      omega
theorem tur_top {ks : List (Int × Int)} {t : Int} (v : Sd ks) : Top (tur ks t) t := fun x hx => by
  have hm := List.mem_of_head? hx
  unfold tur at hm
  obtain ⟨y, hy, rfl⟩ := List.mem_map.mp (List.mem_reverse.mp hm)
  have := v.g y hy
  simp only
  omega
/-- a drawn rest; drawn halves -/
structure RG (ks : List (Int × Int)) : Prop where
  s : Sd ks
  l : ks.length ≤ 2
  t : Top ks (pl ks - 1)
  b : pl ks < 2 ^ 1000
structure HG (ks js : List (Int × Int)) : Prop where
  s : Sd ks
  s2 : Sd js
  l : ks.length ≤ 2
  l2 : js.length ≤ 2
  t : Top ks (pl js)
  t2 : Top js (pl ks)
  b : pl ks < 2 ^ 1000
  b2 : pl js < 2 ^ 1000
theorem RG.tur {ks : List (Int × Int)} (g : RG ks) : RG (Lw.tur ks (pl ks - 1)) := ⟨g.s.tur g.t (by have := g.b; omega), by rw [tur_len]; exact g.l, by rw [pl_tur]; exact tur_top g.s, by rw [pl_tur]; exact g.b⟩
theorem HG.sym {ks js : List (Int × Int)} (g : HG ks js) : HG js ks := ⟨g.s2, g.s, g.l2, g.l, g.t2, g.t, g.b2, g.b⟩
theorem HG.tur {ks js : List (Int × Int)} (g : HG ks js) : HG (Lw.tur ks (pl js)) (Lw.tur js (pl ks)) :=
  ⟨g.s.tur g.t g.b2, g.s2.tur g.t2 g.b, by rw [tur_len]; exact g.l, by rw [tur_len]; exact g.l2, by rw [pl_tur]; exact tur_top g.s, by rw [pl_tur]; exact tur_top g.s2, by rw [pl_tur]; exact g.b, by rw [pl_tur]; exact g.b2⟩
theorem sd1 {a n : Int} (ha : 0 ≤ a) (ha2 : a < 2 ^ 999) (hn : 1 ≤ n) (hn2 : n < 2 ^ 999) : Sd [(a, n)] := by
  refine ⟨by simp, ⟨by simp, fun x hx => ?_⟩, fun x hx => ?_, fun x hx => ?_, List.pairwise_singleton _ _⟩ <;> rw [List.mem_singleton] at hx <;> subst hx
  · constructor <;> simp only <;> omega
  · exact hn
  · exact ha
theorem sd2 {a n c m : Int} (ha : c < a) (ha2 : a < 2 ^ 999) (hn : 1 ≤ n) (hn2 : n < 2 ^ 999) (hc : 0 ≤ c) (hm : 1 ≤ m) (hm2 : m < 2 ^ 999) : Sd [(a, n), (c, m)] := by
  refine ⟨by simp, ⟨by simp, fun x hx => ?_⟩, fun x hx => ?_, fun x hx => ?_, ?_⟩
  · simp at hx
    rcases hx with rfl | rfl <;> constructor <;> simp only <;> omega
  · simp at hx
    rcases hx with rfl | rfl
    · exact hn
    · exact hm
  · simp at hx
    rcases hx with rfl | rfl
    · show 0 ≤ a; omega
    · exact hc
  · simp [ha]
theorem top1 {a n t : Int} {r : List (Int × Int)} (h : a ≤ t) : Top ((a, n) :: r) t := fun x hx => by cases hx; exact h
def menuL (m s : Int) : List (List (Int × Int)) := [[(2, 5)], [(1, 2 * m + 2)], [(s, 1), (1, s + 2 * m)], [(2 * m + 2, 1), (2, 2 * m + 3)], [(2, 5 + m)], [(3, 2 * m + 6)]]
theorem menu_ok {m s : Int} (hm : 1 ≤ m) (hm2 : m ≤ 10 ^ 28) (hs : 2 ≤ s) (hs2 : s ≤ 10 ^ 28) : ∀ ks ∈ menuL m s, RG ks := fun ks hk => by
  simp only [menuL, List.mem_cons, List.not_mem_nil, or_false] at hk
  rcases hk with rfl | rfl | rfl | rfl | rfl | rfl
  · exact ⟨sd1 (by decide) (by decide) (by decide) (by decide), by simp, top1 (by simp [pl]), by simp [pl]⟩
  · exact ⟨sd1 (by decide) (by decide) (by omega) (by omega), by simp, top1 (by simp [pl]; omega), by simp [pl]; omega⟩
  · exact ⟨sd2 (by omega) (by omega) (by decide) (by decide) (by decide) (by omega) (by omega), by simp, top1 (by simp [pl]; omega), by simp [pl]; omega⟩
  · exact ⟨sd2 (by omega) (by omega) (by decide) (by decide) (by decide) (by omega) (by omega), by simp, top1 (by simp [pl]; omega), by simp [pl]; omega⟩
  · exact ⟨sd1 (by decide) (by decide) (by omega) (by omega), by simp, top1 (by simp [pl]; omega), by simp [pl]; omega⟩
  · exact ⟨sd1 (by decide) (by decide) (by omega) (by omega), by simp, top1 (by simp [pl]; omega), by simp [pl]; omega⟩
theorem rest_ok {S : Sto} {k : Nat} (w : Wl S k) : ∃ ks b S', f__law_rest [.hnd k] S = .ok (.tup [.tup [.str "rest", .tup (kd ks)], .bl b]) S' ∧ RG ks ∧ Wl S' k := by
  obtain ⟨m, S1, m1, m2, m3, w1⟩ := size_ok w
  obtain ⟨s, S2, s1, s2, s3, w2⟩ := size_ok w1
  obtain ⟨v, S3, v1, v2, v3, w3⟩ := draw_ok (m := 6) w2 (by decide) (by decide)
  obtain ⟨z, S4, z1, z2, z3, w4⟩ := draw_ok (m := 2) w3 (by decide) (by decide)
  have hv : v.toNat < (menuL (1 + m) (2 + s)).length := by show v.toNat < 6; omega
  have rg := menu_ok (m := 1 + m) (s := 2 + s) (by omega) (by omega) (by omega) (by omega) _ (List.getElem_mem hv)
  have hat : atI ((menuL (1 + m) (2 + s)).map fun ks => D.tup (kd ks)) v = some (.tup (kd (menuL (1 + m) (2 + s))[v.toNat])) := by
    rw [atI_nat v2, List.getElem?_map, List.getElem?_eq_getElem hv]
    rfl
  generalize (menuL (1 + m) (2 + s))[v.toNat] = ks at rg hat
  simp only [menuL, List.map_cons, List.map_nil, kd_cons, kd_nil, pr] at hat
  have pp := fun S => lplaces_eq (S := S) (d := .tup (kd ks)) (.inl rfl) rg.s.w
  have oo := fun S => lopp_eq (S := S) (top := pl ks - 1) rg.s.w
  have mm : ∀ x : Int, mulOk 2 x = true := fun x => mulOk_l (by decide)
  by_cases c : z = 0
  · refine ⟨tur ks (pl ks - 1), decide (v < 4), S4, ?_, rg.tur, w4⟩
    simp [f__law_rest, m__law_rest, runM_eq, m1, s1, v1, z1, mm, addD, hat, c, pp, oo]
  · refine ⟨ks, decide (v < 4), S4, ?_, rg, w4⟩
    simp [f__law_rest, m__law_rest, runM_eq, m1, s1, v1, z1, mm, addD, hat, c, pp, oo]
end Lw

namespace Lw
open PySem PySem.Spec PyProof.Rows L2 Dg
theorem read_any {ks js : List (Int × Int)} {z : Int} (g : HG ks js) (h0 : 0 ≤ z) (h4 : z < 4) : ∃ is os, (∀ S, f__law_read [.tup [.tup (kd ks), .tup (kd js)], .int z] S = .ok (two (.tup (kd is)) (.tup (kd os))) S) ∧ HG is os := by
  have : z = 0 ∨ z = 1 ∨ z = 2 ∨ z = 3 := by omega
  rcases this with rfl | rfl | rfl | rfl
  · exact ⟨_, _, fun S => lread0, g⟩
  · exact ⟨_, _, fun S => lread1, g.sym⟩
  · exact ⟨_, _, fun S => lread2 g.s.w g.s2.w, g.tur.sym⟩
  · exact ⟨_, _, fun S => lread3 g.s.w g.s2.w, g.tur⟩
theorem mk_ok {x y : Int} (h1 : 0 ≤ x) (h2 : x < 2 ^ 999) (h3 : 0 ≤ y) (h4 : y < 2 ^ 999) : mulOk x y = true := mulOk_w (by omega) (by omega)
theorem mul_lt {x y : Int} (h1 : 0 ≤ x) (h2 : x ≤ 10 ^ 30) (h3 : 0 ≤ y) (h4 : y ≤ 10 ^ 30) : 0 ≤ x * y ∧ x * y ≤ 10 ^ 60 := by
  refine ⟨Int.mul_nonneg h1 h3, ?_⟩
  have := Int.mul_le_mul h2 h4 h3 (by decide)
  have e : (10 : Int) ^ 30 * 10 ^ 30 = 10 ^ 60 := by decide
  omega
theorem halves_ok {S : Sto} {k : Nat} (w : Wl S k) : ∃ ks js b S', f__law_halves [.hnd k] S = .ok (.tup [.tup [.str "halves", .tup (kd ks), .tup (kd js)], .bl b]) S' ∧ HG ks js ∧ Wl S' k := by
  obtain ⟨p', S1, p1, p2, p3, w1⟩ := size_ok w
  obtain ⟨q', S2, q1, q2, q3, w2⟩ := size_ok w1
  obtain ⟨r', S3, r1, r2, r3, w3⟩ := size_ok w2
  obtain ⟨v, S4, v1, v2, v3, w4⟩ := draw_ok (m := 5) w3 (by decide) (by decide)
  obtain ⟨z, S5, z1, z2, z3, w5⟩ := draw_ok (m := 4) w4 (by decide) (by decide)
  generalize hp : 1 + p' = p at *
  generalize hq : 2 + q' = q at *
  generalize hr : 1 + r' = r at *
  have hp1 : 1 ≤ p := by omega
  have hq1 : 2 ≤ q := by omega
  have hr1 : 1 ≤ r := by omega
  have pq := mul_lt (x := p) (y := q) (by omega) (by omega) (by omega) (by omega)
  have prq := mul_lt (x := p + r) (y := q) (by omega) (by omega) (by omega) (by omega)
  have pr' := mul_lt (x := p) (y := r) (by omega) (by omega) (by omega) (by omega)
  have p1r := mul_lt (x := p + 1) (y := r) (by omega) (by omega) (by omega) (by omega)
  have rp1 : r * (p + 1) = (p + 1) * r := Int.mul_comm _ _
  have n1 : p * 2 ≤ p * q := Int.mul_le_mul_of_nonneg_left hq1 (by omega)
  have n2 : (p + r) * 2 ≤ (p + r) * q := Int.mul_le_mul_of_nonneg_left hq1 (by omega)
  have n3 : (p + 1) * 1 ≤ (p + 1) * r := Int.mul_le_mul_of_nonneg_left hr1 (by omega)
  have k1 : mulOk p q = true := mk_ok (by omega) (by omega) (by omega) (by omega)
  have k2 : mulOk (p + r) q = true := mk_ok (by omega) (by omega) (by omega) (by omega)
  have k3 : mulOk p r = true := mk_ok (by omega) (by omega) (by omega) (by omega)
  have k4 : mulOk (p + 1) r = true := mk_ok (by omega) (by omega) (by omega) (by omega)
  have k5 : mulOk r (p + 1) = true := mk_ok (by omega) (by omega) (by omega) (by omega)
  have k6 : mulOk 2 p = true := mulOk_l (by decide)
  have go : ∀ ki kj : List (Int × Int), HG ki kj → (∀ ks js, (∀ S, f__law_read [.tup [.tup (kd ki), .tup (kd kj)], .int z] S = .ok (two (.tup (kd ks)) (.tup (kd js))) S) → f__law_halves [.hnd k] S = .ok (.tup [.tup [.str "halves", .tup (kd ks), .tup (kd js)], .bl (decide (v < 4))]) S5) →
      ∃ ks js b S', f__law_halves [.hnd k] S = .ok (.tup [.tup [.str "halves", .tup (kd ks), .tup (kd js)], .bl b]) S' ∧ HG ks js ∧ Wl S' k := fun ki kj g h => by
    obtain ⟨is, os, e1, g1⟩ := read_any g z2 z3
    exact ⟨is, os, _, S5, h is os e1, g1, w5⟩
  have hv : v = 0 ∨ v = 1 ∨ v = 2 ∨ v = 3 ∨ v = 4 := by omega
  rcases hv with rfl | rfl | rfl | rfl | rfl
  · refine go [(p, q)] [(1, p * q)] ⟨sd1 (by omega) (by omega) (by omega) (by omega), sd1 (by decide) (by decide) (by omega) (by omega), by simp, by simp, top1 (by simp [pl]; omega), top1 (by simp [pl]; omega), by simp [pl]; omega, by simp [pl]; omega⟩ fun ks js rd => ?_
    simp only [kd_cons, kd_nil, Dg.pr] at rd
    simp (decide := true) [f__law_halves, m__law_halves, runM_eq, p1, q1, r1, v1, z1, hp, hq, hr, k1, rd, two]
  · refine go [(p + r, q), (p, r)] [(1, (p + r) * q + p * r)] ⟨sd2 (by omega) (by omega) (by omega) (by omega) (by omega) (by omega) (by omega), sd1 (by decide) (by decide) (by omega) (by omega), by simp, by simp, top1 (by simp [pl]; omega), top1 (by simp [pl]; omega), by simp [pl]; omega, by simp [pl]; omega⟩ fun ks js rd => ?_
    simp only [kd_cons, kd_nil, Dg.pr] at rd
    simp (decide := true) [f__law_halves, m__law_halves, runM_eq, p1, q1, r1, v1, z1, hp, hq, hr, k1, k2, k3, rd, two]
  · refine go [(p + 1, q + r)] [(q, 1), (1, p * q + (p + 1) * r)] ⟨sd1 (by omega) (by omega) (by omega) (by omega), sd2 (by omega) (by omega) (by omega) (by omega) (by omega) (by omega) (by omega), by simp, by simp, top1 (by simp [pl]; omega), top1 (by simp [pl]; omega), by simp [pl]; omega, by simp [pl]; omega⟩ fun ks js rd => ?_
    simp only [kd_cons, kd_nil, Dg.pr] at rd
    simp (decide := true) [f__law_halves, m__law_halves, runM_eq, p1, q1, r1, v1, z1, hp, hq, hr, k1, k4, rd, two]
  · refine go [(2 * p + r * (p + 1) + 1 - 1, 1), (p + 1, r + 2)] [(2, 2 * p + r * (p + 1) + 1)] ⟨sd2 (by omega) (by omega) (by omega) (by omega) (by omega) (by omega) (by omega), sd1 (by decide) (by decide) (by omega) (by omega), by simp, by simp, top1 (by simp [pl]; omega), top1 (by simp [pl]; omega), by simp [pl]; omega, by simp [pl]; omega⟩ fun ks js rd => ?_
    simp only [kd_cons, kd_nil, Dg.pr] at rd
    simp (decide := true) [f__law_halves, m__law_halves, runM_eq, p1, q1, r1, v1, z1, hp, hq, hr, k1, k5, k6, two]
    simp at rd
    simp (decide := true) [rd, two]
  · refine go [(2, 3 + r)] [(2, 3 + r)] ⟨sd1 (by omega) (by omega) (by omega) (by omega), sd1 (by decide) (by decide) (by omega) (by omega), by simp, by simp, top1 (by simp [pl]; omega), top1 (by simp [pl]; omega), by simp [pl]; omega, by simp [pl]; omega⟩ fun ks js rd => ?_
    simp only [kd_cons, kd_nil, Dg.pr] at rd
    simp (decide := true) [f__law_halves, m__law_halves, runM_eq, p1, q1, r1, v1, z1, hp, hq, hr, k1, rd, two]
end Lw

namespace Lw
open PySem PySem.Spec PyProof.Rows L2 Dg
theorem cnt_lc {S : Sto} {p : D} {ks : List (Int × Int)} {t : D} : lcLoop (pTpA (psCons (pNm 1) (psCons (pNm 2) psNil)) 2) tYs (eVar 2) [1, 2] (kd ks) [.val p, .no, .no, .val t] S = .ok ((ks.map (·.2)).map D.int) S := by
  rw [List.map_map]
  exact lc_map fun x _ => ⟨[.val p, .val (.int x.1), .val (.int x.2), .val t], by simp [wipeE], by simp⟩
theorem cnt_ne {ks : List (Int × Int)} (v : Sd ks) : ks.map (·.2) ≠ [] := by simpa using v.ne
theorem most_rest {S : Sto} {ks : List (Int × Int)} (v : Sd ks) : ∃ M, f__law_most [.tup [.str "rest", .tup (kd ks)]] S = .ok (.int M) S ∧ ∀ x ∈ ks, x.2 ≤ M := by
  have hc : cutL [D.str "rest", .tup (kd ks)] (some 1) none = [.tup (kd ks)] := rfl
  have hl : ks.length ≤ 16777216 := fl v.w.1
  have m1 := maxL_ints (cnt_ne v)
  have m2 := maxL_ints (ns := [maxI (ks.map (·.2))]) (by simp)
  refine ⟨maxI [maxI (ks.map (·.2))], ?_, fun x hx => ?_⟩
  · simp only [List.map_cons, List.map_nil] at m2
    simp (decide := true) [-List.map_map, f__law_most, m__law_most, runM_eq, inD0_str2, hc, lcLoop, wipeE, cnt_lc, hl, m1, m2]
  · have h1 : x.2 ≤ maxI (ks.map (·.2)) := maxI_ge _ _ (List.mem_map.mpr ⟨x, hx, rfl⟩)
    have h2 := maxI_ge [maxI (ks.map (·.2))] (maxI (ks.map (·.2))) List.mem_cons_self
    exact Int.le_trans h1 h2
theorem most_halves {S : Sto} {ks js : List (Int × Int)} (v : Sd ks) (v2 : Sd js) : ∃ M, f__law_most [.tup [.str "halves", .tup (kd ks), .tup (kd js)]] S = .ok (.int M) S ∧ (∀ x ∈ ks, x.2 ≤ M) ∧ ∀ x ∈ js, x.2 ≤ M := by
  have hc : cutL [D.str "halves", .tup (kd ks), .tup (kd js)] (some 1) none = [.tup (kd ks), .tup (kd js)] := rfl
  have hl : ks.length ≤ 16777216 := fl v.w.1
  have hl2 : js.length ≤ 16777216 := fl v2.w.1
  have m1 := maxL_ints (cnt_ne v)
  have m1' := maxL_ints (cnt_ne v2)
  have m2 := maxL_ints (ns := [maxI (ks.map (·.2)), maxI (js.map (·.2))]) (by simp)
  refine ⟨maxI [maxI (ks.map (·.2)), maxI (js.map (·.2))], ?_, fun x hx => ?_, fun x hx => ?_⟩
  · simp only [List.map_cons, List.map_nil] at m2
    simp (decide := true) [-List.map_map, f__law_most, m__law_most, runM_eq, inD0_str2, hc, lcLoop, wipeE, cnt_lc, hl, hl2, m1, m1', m2]
  · have h1 : x.2 ≤ maxI (ks.map (·.2)) := maxI_ge _ _ (List.mem_map.mpr ⟨x, hx, rfl⟩)
    have h2 := maxI_ge [maxI (ks.map (·.2)), maxI (js.map (·.2))] (maxI (ks.map (·.2))) (by simp)
    exact Int.le_trans h1 h2
  · have h1 : x.2 ≤ maxI (js.map (·.2)) := maxI_ge _ _ (List.mem_map.mpr ⟨x, hx, rfl⟩)
    have h2 := maxI_ge [maxI (ks.map (·.2)), maxI (js.map (·.2))] (maxI (js.map (·.2))) (by simp)
    exact Int.le_trans h1 h2
/-- kinds within bounds: what a piece holds -/
structure Bd (t : Int) (ks : List (Int × Int)) : Prop where
  ne : ks ≠ []
  l : ks.length ≤ 2
  b : ∀ x ∈ ks, 0 ≤ x.1 ∧ x.1 ≤ t ∧ 1 ≤ x.2 ∧ x.2 ≤ t
  d : ks.Pairwise fun x y => y.1 < x.1
theorem Bd.vk {ks : List (Int × Int)} {t : Int} (h : Bd t ks) (ht : t ≤ 10 ^ 30) : Vk ks := ⟨h.ne, Nat.le_trans h.l (by decide), fun x hx => by
  obtain ⟨a, b, c, d⟩ := h.b x hx
  have b' : ¬ 10000000000000000000000000000000 < x.1 := by omega
  have d' : x.2 ≤ 1000000000000000000000000000000 := by omega
  simp [kOk, a, c, d']
  omega, pw_desc h.d⟩
theorem Bd.sd {ks : List (Int × Int)} {t : Int} (h : Bd t ks) (ht : t ≤ 10 ^ 30) : Sd ks := ⟨h.ne, ⟨Nat.le_trans h.l (by decide), fun x hx => by
  obtain ⟨a, b, c, d⟩ := h.b x hx
  constructor <;> omega⟩, fun x hx => (h.b x hx).2.2.1, fun x hx => (h.b x hx).1, h.d⟩
theorem Bd.pl {ks : List (Int × Int)} {t : Int} (h : Bd t ks) (ht : t ≤ 10 ^ 30) : Lw.pl ks < 2 ^ 1000 := by
  obtain ⟨ne, l, b, d⟩ := h
  rcases ks with _ | ⟨x, _ | ⟨y, _ | ⟨z, r⟩⟩⟩
  · exact absurd rfl ne
  · have := b x (by simp)
    simp [Lw.pl]
    omega
  · have := b x (by simp)
    have := b y (by simp)
    simp [Lw.pl]
    omega
  · simp at l
theorem bent_ok {S : Sto} {k : Nat} {ks : List (Int × Int)} (w : Wl S k) (h : Bd (3 * 10 ^ 29) ks) : ∃ js S', f__law_bent_lots [.hnd k, .tup (kd ks)] S = .ok (.tup (kd js)) S' ∧ Bd (10 ^ 30) js ∧ Wl S' k := by
  have hn : 0 < ks.length := List.length_pos_iff.mpr h.ne
  obtain ⟨v, S1, a1, a2, a3, w1⟩ := draw_ok (m := ks.length) w (by omega) (by have := h.l; omega)
  have hv : v.toNat < ks.length := by omega
  obtain ⟨x, hx⟩ : ∃ x, x = ks[v.toNat] := ⟨_, rfl⟩
  have hxm : x ∈ ks := by rw [hx]; exact List.getElem_mem _
  have hat : atI (kd ks) v = some (pr x) := by rw [atI_nat a2, kd_get, List.getElem?_eq_getElem hv, hx]; rfl
  obtain ⟨x0, x1, x2, x3⟩ := h.b x hxm
  let mx1 : Int := if 1 < x.2 - 1 then x.2 - 1 else 1
  let mx0 : Int := if 1 < x.1 then x.1 - 1 else 0
  obtain ⟨d, S2, d1, d2, w2⟩ := pick_ok (ds := [pr (x.1, x.2 + 1), pr (x.1, mx1), pr (x.1 + 1, x.2), pr (mx0, x.2)]) w1 (by simp) (by simp)
  have hd : ∃ y, d = pr y ∧ 0 ≤ y.1 ∧ y.1 ≤ 3 * 10 ^ 29 + 1 ∧ 1 ≤ y.2 ∧ y.2 ≤ 3 * 10 ^ 29 + 1 := by
    have f1 : 1 ≤ mx1 ∧ mx1 ≤ x.2 := by show 1 ≤ (if 1 < x.2 - 1 then x.2 - 1 else 1) ∧ (if 1 < x.2 - 1 then x.2 - 1 else 1) ≤ x.2; split <;> omega
    have f0 : 0 ≤ mx0 ∧ mx0 ≤ x.1 := by show 0 ≤ (if 1 < x.1 then x.1 - 1 else 0) ∧ (if 1 < x.1 then x.1 - 1 else 0) ≤ x.1; split <;> omega
    generalize mx1 = m1 at *
    generalize mx0 = m0 at *
    simp only [List.mem_cons, List.not_mem_nil, or_false] at d2
    rcases d2 with rfl | rfl | rfl | rfl
    · exact ⟨_, rfl, by simp only; omega, by simp only; omega, by simp only; omega, by simp only; omega⟩
    · exact ⟨_, rfl, by simp only; omega, by simp only; omega, by simp only; omega, by simp only; omega⟩
    · exact ⟨_, rfl, by simp only; omega, by simp only; omega, by simp only; omega, by simp only; omega⟩
    · exact ⟨_, rfl, by simp only; omega, by simp only; omega, by simp only; omega, by simp only; omega⟩
  obtain ⟨y, rfl, y0, y1, y2, y3⟩ := hd
  let inp : List (Int × Int) := ks.take v.toNat ++ [y] ++ ks.drop (v.toNat + 1)
  have c1 : cutL (kd ks) none (some v) = kd (ks.take v.toNat) := by
    unfold cutL
    rw [HT.sIx_none, show HT.sIx (kd ks).length (kd ks).length (some v) = v.toNat from by
      show (if v < 0 then (v + ((kd ks).length : Int)).toNat else min v.toNat (kd ks).length) = _
      rw [if_neg (by omega), kd_len]; omega]
    simp [kd]
  have c2 : cutL (kd ks) (some (v + 1)) none = kd (ks.drop (v.toNat + 1)) := by
    unfold cutL
    rw [HT.sIx_none, show HT.sIx (kd ks).length 0 (some (v + 1)) = v.toNat + 1 from by
      show (if v + 1 < 0 then (v + 1 + ((kd ks).length : Int)).toNat else min (v + 1).toNat (kd ks).length) = _
      rw [if_neg (by omega), kd_len]; omega]
    rw [kd_len, kd, ← List.map_drop, kd, List.take_of_length_le (by simp)]
  have li : inp.length ≤ 2 := by
    have := h.l
    simp only [inp, List.length_append, List.length_take, List.length_drop, List.length_cons, List.length_nil]
    omega
  have bi : ∀ z ∈ inp, 1 ≤ z.2 ∧ (0 ≤ z.1 ∧ z.1 ≤ 3 * 10 ^ 29 + 1) := fun z hz => by
    simp only [inp, List.mem_append, List.mem_cons, List.not_mem_nil, or_false] at hz
    rcases hz with (hz | rfl) | hz
    · have := h.b z (List.mem_of_mem_take hz); omega
    · exact ⟨y2, y0, y1⟩
    · have := h.b z (List.mem_of_mem_drop hz); omega
  have si : (inp.map (·.2)).sum ≤ 10 ^ 30 := by
    have each : ∀ z ∈ inp, z.2 ≤ 3 * 10 ^ 29 + 1 := fun z hz => by
      simp only [inp, List.mem_append, List.mem_cons, List.not_mem_nil, or_false] at hz
      rcases hz with (hz | rfl) | hz
      · have := h.b z (List.mem_of_mem_take hz); omega
      · exact y3
      · have := h.b z (List.mem_of_mem_drop hz); omega
    generalize inp = ii at *
    rcases ii with _ | ⟨p, _ | ⟨q, _ | ⟨r, t⟩⟩⟩
    · simp
    · have := each p (by simp); simp; omega
    · have := each p (by simp); have := each q (by simp); simp; omega
    · simp at li
  have mv := mg_v (ks := inp) (b := fun z => 0 ≤ z ∧ z ≤ 3 * 10 ^ 29 + 1) bi
  have me : ∀ S, f__law_merged [.lst (kd inp)] S = .ok (.tup (kd (mg inp))) S := fun S => merged_eq (.inr rfl) (Nat.le_trans li (by decide))
  have ki : kd inp = kd (ks.take v.toNat) ++ [pr y] ++ kd (ks.drop (v.toNat + 1)) := by simp [inp, kd]
  rw [ki] at me
  have l0 := h.l
  have e1 : addD (.lst (kd (ks.take v.toNat))) (.lst [pr y]) = some (.lst (kd (ks.take v.toNat) ++ [pr y])) := addL_ok (by rw [kd_len, List.length_take, List.length_cons, List.length_nil]; omega)
  have e2 : addD (.lst (kd (ks.take v.toNat) ++ [pr y])) (.lst (kd (ks.drop (v.toNat + 1)))) = some (.lst (kd (ks.take v.toNat) ++ [pr y] ++ kd (ks.drop (v.toNat + 1)))) :=
    addL_ok (by rw [List.length_append, kd_len, kd_len, List.length_take, List.length_drop, List.length_cons, List.length_nil]; omega)
  refine ⟨mg inp, S2, ?_, ⟨mv.ne (by simp [inp]), Nat.le_trans mv.len li, fun z hz => ?_, mv.desc⟩, w2⟩
  · generalize kd (ks.take v.toNat) = A at *
    generalize kd (ks.drop (v.toNat + 1)) = B at *
    simp only [pr_tup, mx1, mx0] at d1
    simp only [pr_tup, List.append_assoc, List.cons_append, List.nil_append] at e1 e2 me
    simp [f__law_bent_lots, m__law_bent_lots, runM_eq, a1, hat, d1, c1, c2, e1, e2, me]
  · obtain ⟨g1, g2, g3, g4⟩ := mv.ok z hz
    exact ⟨g3, by omega, g1, by omega⟩
end Lw

namespace Lw
open PySem PySem.Spec PyProof.Rows L2 Dg
inductive Pc : D → Prop
  | word {x : Str} {n : Int} : (x = "alone" ∨ x = "tied") → 1 ≤ n → Pc (.tup [.str x, .int n])
  | rest {ks : List (Int × Int)} : Bd (10 ^ 30) ks → Pc (.tup [.str "rest", .tup (kd ks)])
  | halves {ks js : List (Int × Int)} : Bd (10 ^ 30) ks → Bd (10 ^ 30) js → Pc (.tup [.str "halves", .tup (kd ks), .tup (kd js)])
theorem Bd.mono {t u : Int} {ks : List (Int × Int)} (h : Bd t ks) (q : t ≤ u) : Bd u ks := ⟨h.ne, h.l, fun x hx => by have := h.b x hx; omega, h.d⟩
theorem pl_le {ks : List (Int × Int)} {t : Int} (l : ks.length ≤ 2) (h : ∀ x ∈ ks, 1 ≤ x.2 ∧ x.2 ≤ t) (ht : 0 ≤ t) : pl ks ≤ 2 * t := by
  rcases ks with _ | ⟨x, _ | ⟨y, _ | ⟨z, r⟩⟩⟩
  · simp [pl]; omega
  · have := h x (by simp); simp [pl]; omega
  · have := h x (by simp); have := h y (by simp); simp [pl]; omega
  · simp at l
theorem RG.bd {ks : List (Int × Int)} (g : RG ks) (h : ∀ x ∈ ks, x.2 ≤ 10 ^ 29) : Bd (3 * 10 ^ 29) ks := by
  have p := pl_le (t := 10 ^ 29) g.l (fun x hx => ⟨g.s.c x hx, h x hx⟩) (by decide)
  refine ⟨g.s.ne, g.l, fun x hx => ?_, g.s.d⟩
  have := g.s.top_all g.t x hx
  have := g.s.c x hx
  have := g.s.g x hx
  have := h x hx
  omega
theorem HG.bd {ks js : List (Int × Int)} (g : HG ks js) (h : ∀ x ∈ ks, x.2 ≤ 10 ^ 29) (h2 : ∀ x ∈ js, x.2 ≤ 10 ^ 29) : Bd (3 * 10 ^ 29) ks := by
  have p := pl_le (t := 10 ^ 29) g.l2 (fun x hx => ⟨g.s2.c x hx, h2 x hx⟩) (by decide)
  refine ⟨g.s.ne, g.l, fun x hx => ?_, g.s.d⟩
  have := g.s.top_all g.t x hx
  have := g.s.c x hx
  have := g.s.g x hx
  have := h x hx
  omega
theorem p29 : powD (.int 10) (.int 29) = some (.int 100000000000000000000000000000) := rfl
theorem bd25 : Bd (10 ^ 30) [(2, 5)] := ⟨by simp, by simp, fun x hx => by rw [List.mem_singleton.mp hx]; decide, List.pairwise_singleton _ _⟩
theorem any_ok {S : Sto} {k : Nat} (w : Wl S k) : ∃ d S', f__law_any_piece [.hnd k] S = .ok d S' ∧ Pc d ∧ Wl S' k := by
  obtain ⟨v, S1, v1, v2, v3, w1⟩ := draw_ok (m := 5) w (by decide) (by decide)
  by_cases c0 : v = 0
  · subst c0
    obtain ⟨d, S2, d1, d2, w2⟩ := pick_ok (ds := [.str "alone", .str "tied"]) w1 (by simp) (by simp)
    obtain ⟨n, S3, n1, n2, n3, w3⟩ := size_ok w2
    have hd : ∃ x : Str, d = .str x ∧ (x = "alone" ∨ x = "tied") := by
      simp only [List.mem_cons, List.not_mem_nil, or_false] at d2
      rcases d2 with rfl | rfl
      · exact ⟨_, rfl, .inl rfl⟩
      · exact ⟨_, rfl, .inr rfl⟩
    obtain ⟨x, rfl, hx⟩ := hd
    refine ⟨.tup [.str x, .int (1 + n)], S3, ?_, .word hx (by omega), w3⟩
    simp [f__law_any_piece, m__law_any_piece, runM_eq, v1, d1, n1]
  · by_cases c3 : v < 3
    · obtain ⟨ks, b, S2, r1, g, w2⟩ := rest_ok w1
      obtain ⟨M, m1, m2⟩ := most_rest (S := S2) g.s
      by_cases cM : 100000000000000000000000000000 < M
      · refine ⟨.tup [.str "rest", .tup (kd [(2, 5)])], S2, ?_, .rest bd25, w2⟩
        simp [f__law_any_piece, m__law_any_piece, runM_eq, v1, c0, c3, r1, m1, p29, cM, pr]
      · have bd := g.bd fun x hx => by have := m2 x hx; omega
        obtain ⟨a, S3, a1, a2, a3, w3⟩ := draw_ok (m := 1) w2 (by decide) (by decide)
        have a0 : a = 0 := by omega
        subst a0
        obtain ⟨z, S4, z1, z2, z3, w4⟩ := draw_ok (m := 2) w3 (by decide) (by decide)
        by_cases cz : z = 0
        · obtain ⟨js, S5, b1, b2, w5⟩ := bent_ok w4 bd
          have k1 : cutL [D.str "rest", .tup (kd ks)] none (some 1) = [.str "rest"] := rfl
          have k2 : cutL [D.str "rest", .tup (kd ks)] (some 2) none = [] := rfl
          refine ⟨.tup [.str "rest", .tup (kd js)], S5, ?_, .rest b2, w5⟩
          simp [f__law_any_piece, m__law_any_piece, runM_eq, v1, c0, c3, r1, m1, p29, cM, a1, z1, cz, b1, k1, k2, addD]
        · refine ⟨.tup [.str "rest", .tup (kd ks)], S4, ?_, .rest (bd.mono (by decide)), w4⟩
          simp [f__law_any_piece, m__law_any_piece, runM_eq, v1, c0, c3, r1, m1, p29, cM, a1, z1, cz]
    · obtain ⟨ks, js, b, S2, r1, g, w2⟩ := halves_ok w1
      obtain ⟨M, m1, m2, m3⟩ := most_halves (S := S2) g.s g.s2
      by_cases cM : 100000000000000000000000000000 < M
      · refine ⟨.tup [.str "rest", .tup (kd [(2, 5)])], S2, ?_, .rest bd25, w2⟩
        simp [f__law_any_piece, m__law_any_piece, runM_eq, v1, c0, c3, r1, m1, p29, cM, pr]
      · have e1 : ∀ x ∈ ks, x.2 ≤ 10 ^ 29 := fun x hx => by have := m2 x hx; omega
        have e2 : ∀ x ∈ js, x.2 ≤ 10 ^ 29 := fun x hx => by have := m3 x hx; omega
        have bd := g.bd e1 e2
        have bd2 := g.sym.bd e2 e1
        obtain ⟨a, S3, a1, a2, a3, w3⟩ := draw_ok (m := 2) w2 (by decide) (by decide)
        obtain ⟨z, S4, z1, z2, z3, w4⟩ := draw_ok (m := 2) w3 (by decide) (by decide)
        by_cases cz : z = 0
        · by_cases ca : a = 0
          · subst ca
            obtain ⟨is, S5, b1, b2, w5⟩ := bent_ok w4 bd
            have k1 : cutL [D.str "halves", .tup (kd ks), .tup (kd js)] none (some 1) = [.str "halves"] := rfl
            have k2 : cutL [D.str "halves", .tup (kd ks), .tup (kd js)] (some 2) none = [.tup (kd js)] := rfl
            refine ⟨.tup [.str "halves", .tup (kd is), .tup (kd js)], S5, ?_, .halves b2 (bd2.mono (by decide)), w5⟩
            simp [f__law_any_piece, m__law_any_piece, runM_eq, v1, c0, c3, r1, m1, p29, cM, a1, z1, cz, b1, k1, k2, addD]
          · have a0 : a = 1 := by omega
            subst a0
            obtain ⟨is, S5, b1, b2, w5⟩ := bent_ok w4 bd2
            have k1 : cutL [D.str "halves", .tup (kd ks), .tup (kd js)] none (some 2) = [.str "halves", .tup (kd ks)] := rfl
            have k2 : cutL [D.str "halves", .tup (kd ks), .tup (kd js)] (some 3) none = [] := rfl
            refine ⟨.tup [.str "halves", .tup (kd ks), .tup (kd is)], S5, ?_, .halves (bd.mono (by decide)) b2, w5⟩
            simp [f__law_any_piece, m__law_any_piece, runM_eq, v1, c0, c3, r1, m1, p29, cM, a1, z1, cz, b1, k1, k2, addD]
        · refine ⟨.tup [.str "halves", .tup (kd ks), .tup (kd js)], S4, ?_, .halves (bd.mono (by decide)) (bd2.mono (by decide)), w4⟩
          simp [f__law_any_piece, m__law_any_piece, runM_eq, v1, c0, c3, r1, m1, p29, cM, a1, z1, cz]
end Lw

namespace Lw
open PySem PySem.Spec PyProof.Rows L2 Dg
def dues : List D := [R "alone" "plain", R "tied" "plain", R "ring" "plain", R "ring" "opposite", R "pairs" "plain", R "pairs" "opposite", R "star" "plain", R "star" "opposite", R "hub" "plain", R "hub" "opposite",
  R "stars" "plain", R "stars" "exchanged", R "stars" "opposite", R "stars" "turned", R "bridge" "plain", R "bridge" "exchanged", R "bridge" "opposite", R "bridge" "turned",
  R "crown" "plain", R "crown" "exchanged", R "crown" "opposite", R "crown" "turned", .non]
def goodD (d : D) : Bool := match toPy (.lst [d, d]) with
  | some p => decide (p.showable = true) && (decide (p.depth ≤ 100) && (decide (p.shown.length ≤ sizeLine) && (decide (p.hasDict = false) && PyData.strOk p.shown)))
  | none => false
theorem good_all : dues.all goodD = true := by decide +kernel
theorem repr_due {d : D} (h : d ∈ dues) : ∃ x, reprD [.lst [d, d]] = some (.str x) ∧ PyData.strOk x = true := by
  have g := List.all_eq_true.mp good_all d h
  unfold goodD at g
  cases e : toPy (.lst [d, d]) with
  | none => rw [e] at g; cases g
  | some p =>
    rw [e] at g
    simp only [Bool.and_eq_true, decide_eq_true_eq] at g
    obtain ⟨g1, g2, g3, g4, g5⟩ := g
    refine ⟨p.shown, ?_, g5⟩
    show (match toPy (.lst [d, d]) with | some p => shownD p | none => none) = _
    rw [e]
    exact if_pos ⟨g1, g2, g3, g4⟩
theorem im {p : Prop} [Decidable p] {a b : D} {L : List D} (ha : a ∈ L) (hb : b ∈ L) : (if p then a else b) ∈ L := by split <;> assumption
theorem restRes_mem {ks : List (Int × Int)} : restRes ks ∈ dues := by
  unfold restRes
  repeat' refine im ?_ ?_
  all_goals simp [dues]
theorem halfRes_mem {ks js ti to : List (Int × Int)} {c : Bool} : halfRes ks js c ti to ∈ dues := by
  unfold halfRes
  repeat' refine im ?_ ?_
  all_goals simp [dues]
theorem pc_family {d : D} (h : Pc d) : ∃ r ∈ dues, (∀ S, f_family [d] S = .ok r S) ∧ ∀ S, f__law_family [d] S = .ok r S := by
  cases h with
  | word hx hn =>
    rename_i x n
    refine ⟨R x "plain", ?_, fun S => family_ok (is_piece_word hx hn) (family_word hx), fun S => lfamily_word hx⟩
    rcases hx with rfl | rfl <;> simp [dues]
  | rest b =>
    rename_i ks
    have v := b.vk (by decide)
    have s := b.sd (by decide)
    exact ⟨restRes ks, restRes_mem, fun S => family_ok (is_piece_rest v) (family_rest (.inl rfl) s.w), fun S => lfamily_rest s.w s.ne s.g⟩
  | halves b b2 =>
    rename_i ks js
    have v := b.vk (by decide)
    have s := b.sd (by decide)
    have v2 := b2.vk (by decide)
    have s2 := b2.sd (by decide)
    have p := b.pl (by decide)
    have p2 := b2.pl (by decide)
    refine ⟨_, halfRes_mem, fun S => family_ok (is_piece_halves v v2) (family_halves (.inl rfl) (.inl rfl) s.w s2.w s.ne s2.ne fun c => ⟨(s.tur c.1 p2).w, (s2.tur c.2 p).w⟩), fun S => lfamily_halves s s2 (Nat.le_trans b.l (by decide)) (Nat.le_trans b2.l (by decide)) p p2⟩
theorem right_ok {S : Sto} {k : Nat} (w : Wl S k) : ∃ S', f__law_right [.hnd k] S = .ok (.bl true) S' := by
  obtain ⟨e, S2, hl, he⟩ := fl_inv (p := pNm 1) (m := (sSeq (sSet 2 (vE (eCall 1 f__law_any_piece (aCons (eVar 0) aNil)))) (sSeq (sSet 3 (vE (eCall 1 f__law_family (aCons (eVar 2) aNil)))) (sIf (tOfE (eOp neD (eCB reprD (aCons (eF (fLst (aCons (eCall 1 f_family (aCons (eVar 2) aNil)) (aCons (eCallK 1 1 [0] f_family (aCons (eVar 2) aNil)) aNil)))) aNil)) (eCB reprD (aCons (eF (fLst (aCons (eVar 3) (aCons (eVar 3) aNil)))) aNil)))) (sRet (eRet (.bl false))) sSkip))))
    (I := fun i e S => (∃ a b c, e = [.val (.hnd k), a, b, c]) ∧ Wl S k) (ds := (List.range 8).map fun i => .int ((i : Nat) : Int)) (env := [.val (.hnd k), .no, .no, .no]) (S := S)
    (fun i d env S hd ⟨⟨a, b, c, he⟩, w⟩ => by
      subst he
      obtain ⟨q, S', q1, q2, q3⟩ := any_ok w
      obtain ⟨r, r1, r2, r3⟩ := pc_family q2
      obtain ⟨x, x1, x2⟩ := repr_due r1
      have ne : neD (.str x) (.str x) = some (.bl false) := by rw [neD_pd (pd_str x2) (pd_str x2) (P := True) (by simp)]; rfl
      refine ⟨[.val (.hnd k), .val d, b, c], [.val (.hnd k), .val d, .val q, .val r], S', by simp, .inl ?_, ⟨_, _, _, rfl⟩, q3⟩
      simp [q1, r2, r3, permL, x1, ne]) ⟨⟨_, _, _, rfl⟩, w⟩
  have rb : rngB 8 = true := by decide
  exact ⟨S2, by simp [f__law_right, m__law_right, runM_eq, rb, hl]⟩
theorem p18 : powD (.int 10) (.int 18) = some (.int 1000000000000000000) := rfl
theorem well_ok {S : Sto} {ns : List Int} {i : Nat} (h : ns.length ≤ 63) (hi : i ≤ 1) : ∃ S', f__law_well [.scr (ns.map D.int), .int i] S = .ok (.hnd S.length) S' ∧ Wl S' S.length := by
  have cut : ∀ lo hi, ∃ ms : List Int, cutL (ns.map D.int) lo hi = ms.map D.int ∧ ms.length ≤ 63 := fun lo hi => by
    refine ⟨cutL ns lo hi, by unfold cutL; simp, ?_⟩
    unfold cutL
    rw [List.length_take, List.length_drop]
    omega
  obtain ⟨m1, c1, l1⟩ := cut none (some 4)
  obtain ⟨m2, c2, l2⟩ := cut (some i) (some (i + 1))
  have ad : addD (.lst (m1.map D.int)) (.lst (m2.map D.int)) = some (.lst ((m1 ++ m2).map D.int)) := by
    rw [addL_ok (by simp; omega), List.map_append]
  obtain ⟨e, S2, hl, st, z, rfl, hS⟩ := fl_inv (p := pNm 3) (m := sSet 2 (vE (eOp modD (eCB int1D (aCons (eOp addD (eOp addD (eOp mulD (eVar 2) (eRet (.int 39019))) (eVar 3)) (eRet (.int 19))) aNil)) (eRet (.int 2147483579)))))
    (I := fun _ e S' => ∃ (st : Int) (z : Slot), e = [.val (.scr (ns.map D.int)), .val (.int i), .val (.int st), z, .no] ∧ S' = S) (ds := (m1 ++ m2).map D.int) (env := [.val (.scr (ns.map D.int)), .val (.int i), .val (.int (71993 + 683 * i)), .no, .no]) (S := S)
    (fun j d env S1 hd ⟨st, z, he, hS⟩ => by
      subst he hS
      rw [List.getElem?_map, Option.map_eq_some_iff] at hd
      obtain ⟨y, _, rfl⟩ := hd
      have mm : mulOk st 39019 = true := mulOk_r (by decide)
      exact ⟨[.val (.scr (ns.map D.int)), .val (.int i), .val (.int st), .val (.int y), .no], [.val (.scr (ns.map D.int)), .val (.int i), .val (.int ((st * 39019 + y + 19) % 2147483579)), .val (.int y), .no], S1, by simp, .inl (by simp [mm]), _, _, rfl, rfl⟩) ⟨_, _, rfl, rfl⟩
  rw [hS] at hl
  have mm : mulOk 683 i = true := mulOk_l (by decide)
  have own : ∃ o : Int, (if i < ns.length then ofO (atI (ns.map D.int) (i : Int)) S else .ok (.int 0) S) = Out.ok (D.int o) S := by
    by_cases q : i < ns.length
    · have q' : i < ns.length := q
      refine ⟨ns[i], ?_⟩
      rw [if_pos q, atI_nat (Int.natCast_nonneg i), Int.toNat_natCast, List.getElem?_map, List.getElem?_eq_getElem q']
      rfl
    · exact ⟨0, by rw [if_neg q]⟩
  obtain ⟨o, ho⟩ := own
  have fin : ∃ c : Int, (if (1000000000000000000 : Int) ≤ (if o < 0 then -o else o) then Out.ok (D.int (if o < 0 then -o else o)) S else .ok (.int 0) S) = Out.ok (D.int c) S := by
    generalize (if o < 0 then -o else o) = q
    split
    · exact ⟨_, rfl⟩
    · exact ⟨_, rfl⟩
  obtain ⟨c, hc⟩ := fin
  refine ⟨S ++ [.lst [.int st, .int 0, .int c]], ?_, st, 0, c, by simp⟩
  simp [-List.map_append, f__law_well, m__law_well, runM_eq, mm, c1, c2, ad, hl, ho, p18, hc]
theorem law_true (ns : List Int) (h : ns.length ≤ 63) : ∃ S, f_law [.scr (ns.map D.int)] [] = .ok (.bl true) S := by
  obtain ⟨S1, a1, a2⟩ := well_ok (S := []) (i := 0) h (by decide)
  obtain ⟨S2, b1⟩ := right_ok a2
  obtain ⟨S3, c1, c2⟩ := well_ok (S := S2) (i := 1) h (by decide)
  obtain ⟨S4, d1⟩ := right_ok c2
  have rb : rngB 2 = true := by decide
  have rg : (List.range 2).map (fun i : Nat => D.int (i : Int)) = [.int 0, .int 1] := rfl
  have al : allL (true, [.bl true, .bl true]) = some (.bl true) := by simpa using allL_bls (ns := [true, true])
  simp only [Int.natCast_zero, Int.natCast_one, List.length_nil] at a1 b1 c1
  exact ⟨S4, by simp [f_law, m_law, runM_eq, rb, rg, lcLoop, wipeE, a1, b1, c1, d1, al]⟩
end Lw

namespace Lw
open PySem PySem.Spec PyProof.Rows L2 Dg
theorem tb {K : PySem.W.Frag} {mg : Str → Option Value} {h : Heap} {w : World} (X : K.In h) (G : h.Ns mainGlobals mg) (c : He.SaysX fa fn [] [] ex w h K) : Nonempty (Tb K mg) := by
  have m : ex K = true := c.more
  simp only [ex, Bool.and_eq_true] at m
  exact ⟨{
    f__law_draw := Classical.choice (ftOf X G c.t.d 0 0 rfl rfl)
    f__law_merged := Classical.choice (ftOf X G c.t.d 1 1 rfl rfl)
    f__law_pick := Classical.choice (ftOf X G c.t.d 2 2 rfl rfl)
    f__law_bent_lots := Classical.choice (ftOf X G c.t.d 3 3 rfl rfl)
    f__law_opposite := Classical.choice (ftOf X G c.t.d 4 4 rfl rfl)
    f__law_places := Classical.choice (ftOf X G c.t.d 5 5 rfl rfl)
    f__law_read := Classical.choice (ftOf X G c.t.d 6 6 rfl rfl)
    f__law_great := Classical.choice (ftOf X G c.t.d 7 7 rfl rfl)
    f__law_size := Classical.choice (ftOf X G c.t.d 8 8 rfl rfl)
    f__law_halves := Classical.choice (ftOf X G c.t.d 9 9 rfl rfl)
    f__law_most := Classical.choice (ftOf X G c.t.d 10 10 rfl rfl)
    f__law_rest := Classical.choice (ftOf X G c.t.d 11 11 rfl rfl)
    f__law_any_piece := Classical.choice (ftOf X G c.t.d 12 12 rfl rfl)
    f__law_ends := Classical.choice (ftOf X G c.t.d 13 13 rfl rfl)
    f__law_are_halves := Classical.choice (ftOf X G c.t.d 14 14 rfl rfl)
    f__law_is_rest := Classical.choice (ftOf X G c.t.d 15 15 rfl rfl)
    f__law_family := Classical.choice (ftOf X G c.t.d 16 16 rfl rfl)
    f_places_of := Classical.choice (ftOf X G c.t.d 17 17 rfl rfl)
    f_turned_about := Classical.choice (ftOf X G c.t.d 18 18 rfl rfl)
    f_halves_read := Classical.choice (ftOf X G c.t.d 19 19 rfl rfl)
    f_ends_of := Classical.choice (ftOf X G c.t.d 20 20 rfl rfl)
    f_single_besides := Classical.choice (ftOf X G c.t.d 21 21 rfl rfl)
    f_is_bridge := Classical.choice (ftOf X G c.t.d 22 22 rfl rfl)
    f_is_crown := Classical.choice (ftOf X G c.t.d 23 23 rfl rfl)
    f_is_halves_of := Classical.choice (ftOf X G c.t.d 24 24 rfl rfl)
    f_is_rest_of := Classical.choice (ftOf X G c.t.d 25 25 rfl rfl)
    f_rest_read := Classical.choice (ftOf X G c.t.d 26 26 rfl rfl)
    f_family_of := Classical.choice (ftOf X G c.t.d 27 27 rfl rfl)
    f_is_integer := Classical.choice (ftOf X G c.t.d 28 28 rfl rfl)
    f_is_count := Classical.choice (ftOf X G c.t.d 29 29 rfl rfl)
    f_is_kind := Classical.choice (ftOf X G c.t.d 30 30 rfl rfl)
    f_wrong_kind := Classical.choice (ftOf X G c.t.d 31 31 rfl rfl)
    f_is_piece := Classical.choice (ftOf X G c.t.d 32 32 rfl rfl)
    f_family := Classical.choice (ftOf X G c.t.d 33 33 rfl rfl)
    f__law_right := Classical.choice (ftOf X G c.t.d 34 34 rfl rfl)
    f__law_well := Classical.choice (ftOf X G c.t.d 35 35 rfl rfl)
    f_law := Classical.choice (ftOf X G c.t.d 36 36 rfl rfl)
    b_abs := frOf X G c.t.d 40 rfl
    b_all := frOf X G c.t.d 41 rfl
    b_bool := frOf X G c.t.d 42 rfl
    b_divmod := frOf X G c.t.d 43 rfl
    b_enumerate := frOf X G c.t.d 44 rfl
    b_int := frOf X G c.t.d 45 rfl
    b_isinstance := frOf X G c.t.d 46 rfl
    b_len := frOf X G c.t.d 47 rfl
    b_list := frOf X G c.t.d 48 rfl
    b_max := frOf X G c.t.d 49 rfl
    b_range := frOf X G c.t.d 50 rfl
    b_repr := frOf X G c.t.d 51 rfl
    b_sorted := frOf X G c.t.d 52 rfl
    b_str := frOf X G c.t.d 53 rfl
    b_sum := frOf X G c.t.d 54 rfl
    b_tuple := frOf X G c.t.d 55 rfl
    c_MOST_COUNT := Classical.choice (ciOf X G c.t.d 56 rfl)
    c_MOST_DEGREE := Classical.choice (ciOf X G c.t.d 57 rfl)
    c_MOST_KINDS := Classical.choice (ciOf X G c.t.d 58 rfl)
    c_HALVES := Classical.choice (ctOf X G c.t.d 37 (vs := v_HALVES) m.1.1 (by decide) rfl rfl)
    c_READINGS := Classical.choice (ctOf X G c.t.d 38 (vs := v_READINGS) m.1.2 (by decide) rfl rfl)
    c_RESTS := Classical.choice (ctOf X G c.t.d 39 (vs := v_RESTS) m.2 (by decide) rfl rfl)
  }⟩
end Lw
open PySem PySem.W PySem.Calls PyProof.Rows
theorem PySem.Challenge.cw_degreerows_k30_whole_families_judged_holds : PySem.Challenge.rw_degreerows_k30_whole_families_judged.Holds := by
  w_on; o_law
  refine HandSHeadRun.head_any (r := OpenLaw.row PySem.Challenge.rw_degreerows_k30_whole_families_judged) (q := view (OpenLaw.row PySem.Challenge.rw_degreerows_k30_whole_families_judged).prog [49]) (H := Lw.hk) (ob := Lw.ob) (M := 2000) (loose := Lw.loose)
    (d := HandSHeadRun.topDef (OpenLaw.row PySem.Challenge.rw_degreerows_k30_whole_families_judged).prog 49) (kwd := []) Lw.ob_eq
    (by kernel_rfl) (fun s => by kernel_rfl) Lw.run (by kernel_rfl) (by kernel_rfl) (by kernel_rfl) (by rfl) (by first | assumption | decide +kernel) (by decide +kernel) ⟨rfl, rfl, rfl, rfl, rfl, by decide +kernel⟩ ?hw ?hc
  case hw => w_witness2
  case hc =>
    refine Dg.walkG (l := PySem.Challenge.rw_degreerows_k30_whole_families_judged) (n := 63) (k := 8) (x := "script") rfl (by decide) (by kernel_rfl) ⟨rfl, by decide, by decide⟩ ?F
    intro w mg fa h Y G hmg0
    obtain ⟨K, KX, c⟩ := Y
    obtain ⟨T⟩ := Lw.tb KX G c
    have hn : (HandSHeadRun.topDef (OpenLaw.row PySem.Challenge.rw_degreerows_k30_whole_families_judged).prog 49).name = ("law" : PySem.Str) := by kernel_rfl
    rw [hn] at hmg0
    have ea := hmg0.symm.trans T.f_law.g
    cases ea
    exact ⟨K, T.f_law.d, Dg.spM K 1 Lw.f_law, KX, fun s v => L2.FunD.bindsA (ps := ["script"]) T.f_law.F (fun _ _ _ _ _ _ us hl => match us, hl with | [_], _ => rfl) s [v] rfl, fun H a ns hl _ hS => Dg.lawSp (Lw.law_true ns hl) hS, fun base _ _ => Lw.ok_law T⟩

