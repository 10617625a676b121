import PyProof.Rows.All
import HandS.ForMost
import HandS.IsInst
import HandS.Wide
import HandS.WideBits
import HandS.Zip
import HandS.CallLocal
import HandS.TupAny
import HandS.TupMul
import HandS.More
import HandS.Iter
import KE.KDictZip
import HandS.HeadWalk
import KE.GoesMore
import HandS.Style
import HandS.Exc
import HandS.Defaults
import Wide.All
import OpenK.AllK
import Wide.FinOn
import KE.KStateDown
import HandS.Head0
import HandS.Head1
import HandS.Head2
import HandS.HeadEnd
import HandS.HeadHook1
import HandS.HeadHook2
import HandS.HeadHook3
import HandS.HeadHook4
import HandS.EndBits
import PySem.Challenge.RW_levelcord_k96_whole_stores_by_rooms
set_option Elab.async false
set_option linter.all false
set_option maxRecDepth 100000
set_option maxHeartbeats 4000000
/-! DLa -/
namespace DL
open PySem PySem.Spec PyProof.Rows L2

/-! ## data -/
inductive D where
  | non | bl (b : Bool) | int (i : Int) | str (s : Str) | tup (ds : List D) | lst (ds : List D) | fn (x : Str)

mutual
def toP : D → PyData
  | .non => .none
  | .bl b => .bool b
  | .int i => .int i
  | .str s => .str s
  | .tup ds => .tuple (toPs ds)
  | .lst ds => .list (toPs ds)
  | .fn _ => .none
def toPs : List D → List PyData
  | [] => []
  | d :: ds => toP d :: toPs ds
end
mutual
/-- no def within -/
def plain : D → Bool
  | .tup ds => plains ds
  | .lst ds => plains ds
  | .fn _ => false
  | _ => true
def plains : List D → Bool
  | [] => true
  | d :: ds => plain d && plains ds
end
def deq (d e : D) : Bool := PyData.eqv (toP d) (toP e)
def okD (d : D) : Prop := SeqAt.shaped (toP d) = true ∧ plain d = true

/-! ## fields, classes -/
/-- fields and classes of the text -/
inductive Fn where
  | begin_ | height | most | least | now | goal | made | slope | places | touches
  deriving DecidableEq
def Fn.str : Fn → Str
  | .begin_ => "begin" | .height => "height" | .most => "most" | .least => "least" | .now => "now" | .goal => "goal" | .made => "made" | .slope => "slope" | .places => "places" | .touches => "touches"
def Fn.all : List Fn := [.begin_, .height, .most, .least, .now, .goal, .made, .slope, .places, .touches]
theorem Fn.mem (f : Fn) : f ∈ Fn.all := by cases f <;> decide
theorem Fn.inj_all : (Fn.all.all fun a => Fn.all.all fun b => decide (a.str = b.str → a = b)) = true := by decide +kernel
theorem Fn.inj {a b : Fn} (h : a.str = b.str) : a = b := by
  have h1 := List.all_eq_true.mp Fn.inj_all a a.mem
  have h2 := of_decide_eq_true (List.all_eq_true.mp h1 b b.mem)
  exact h2 h
inductive Cn where
  | Reach | Levels | Line | Funnel
  deriving DecidableEq
@[simp ↓, simp] def clsFd : Cn → Fn → Bool
  | .Reach, .begin_ => true | .Reach, .height => true | .Reach, .most => true | .Reach, .least => true
  | .Levels, .now => true | .Levels, .goal => true | .Levels, .made => true
  | .Line, .begin_ => true | .Line, .slope => true
  | .Funnel, .places => true | .Funnel, .touches => true
  | _, _ => false
/-- the world of a text: its written part, its names, its classes -/
structure Cxt where
  K : PySem.W.Frag
  mg : Str → Option Value
  cl : Cn → Addr

def KT (K : PySem.W.Frag) (a : Addr) (vs : List V) : Prop :=
  ∃ (o : Obj) (its : Array Value) (n : Nat), K.lookup a = some o ∧ o.cls = .type "tuple" ∧ o.data = .seq its n ∧ its.size ≤ sizeLine ∧ Vals vs its.toList
def KL (K : PySem.W.Frag) (a : Addr) (vs : List V) : Prop :=
  ∃ (o : Obj) (its : Array Value) (n : Nat), K.lookup a = some o ∧ o.cls = .type "list" ∧ o.dict = none ∧ o.data = .seq its n ∧ its.size ≤ sizeLine ∧ Vals vs its.toList

mutual
inductive Rep (G : Cxt) (H : Hp) : V → D → Prop
  | non : Rep G H .non .non
  | bl (b : Bool) : Rep G H (.bl b) (.bl b)
  | int (i : Int) : Rep G H (.int i) (.int i)
  | str (s : Str) : Rep G H (.str s) (.str s)
  | tup {a : Addr} {vs : List V} {ds : List D} : (H a = some (.tup vs) ∨ KT G.K a vs) → RepL G H vs ds → Rep G H (.ref a) (.tup ds)
  | lst {a : Addr} {vs : List V} {ds : List D} : ((∃ o, H a = some (.frz o (.lst vs))) ∨ KL G.K a vs) → RepL G H vs ds → Rep G H (.ref a) (.lst ds)
  | fn {x : Str} {f : Addr} : G.mg x = some (.ref f) → Rep G H (.ref f) (.fn x)
inductive RepL (G : Cxt) (H : Hp) : List V → List D → Prop
  | nil : RepL G H [] []
  | cons {v : V} {vs : List V} {d : D} {ds : List D} : Rep G H v d → RepL G H vs ds → RepL G H (v :: vs) (d :: ds)
end

/-- what a piece of code leaves: all that was known but what it owns (F) -/
structure Step (F : List Addr) (H H' : Hp) : Prop where
  keep : ∀ a o, H a = some o → a ∉ F → H' a = some o
  tup : ∀ a vs, H a = some (.tup vs) → H' a = some (.tup vs)
  frz : ∀ a o u, H a = some (.frz o u) → H' a = some (.frz o u)
  back : ∀ a, H' a = none → H a = none
theorem Step.refl (F : List Addr) (H : Hp) : Step F H H := ⟨fun _ _ h _ => h, fun _ _ h => h, fun _ _ _ h => h, fun _ h => h⟩
theorem Step.trans {F : List Addr} {H H1 H2 : Hp} (a : Step F H H1) (b : Step F H1 H2) : Step F H H2 :=
  ⟨fun x o h n => b.keep x o (a.keep x o h n) n, fun x vs h => b.tup x vs (a.tup x vs h), fun x o u h => b.frz x o u (a.frz x o u h), fun x h => a.back x (b.back x h)⟩
theorem Step.mono {F F' : List Addr} {H H1 : Hp} (a : Step F H H1) (h : ∀ x ∈ F, x ∈ F') : Step F' H H1 :=
  ⟨fun x o e n => a.keep x o e fun z => n (h x z), a.tup, a.frz, a.back⟩
/-- the second step may change what is new since H -/
theorem Step.transN {F F' : List Addr} {H H1 H2 : Hp} (a : Step F H H1) (b : Step F' H1 H2) (h : ∀ x ∈ F', x ∈ F ∨ H x = none) : Step F H H2 :=
  ⟨fun x o e n => b.keep x o (a.keep x o e n) fun z => (h x z).elim n fun q => (by rw [q] at e; cases e), fun x vs h => b.tup x vs (a.tup x vs h), fun x o u h => b.frz x o u (a.frz x o u h), fun x h => a.back x (b.back x h)⟩
theorem Step.new {F : List Addr} {H : Hp} {p : Addr} {o : HO} (h : H p = none) : Step F H (upd H p o) := by
  refine ⟨fun a u e _ => ?_, fun a vs e => ?_, fun a u w e => ?_, fun a e => ?_⟩
  · rw [upd_ne (ne_of_none e h)]; exact e
  · rw [upd_ne (ne_of_none e h)]; exact e
  · rw [upd_ne (ne_of_none e h)]; exact e
  · by_cases z : a = p
    · rw [z]; exact h
    · rw [upd_ne z] at e; exact e
theorem Step.lst {F : List Addr} {H : Hp} {p : Addr} {xs ys : List V} (h : H p = some (.lst xs)) (hp : p ∈ F) : Step F H (upd H p (.lst ys)) := by
  refine ⟨fun a u e n => ?_, fun a vs e => ?_, fun a u w e => ?_, fun a e => ?_⟩
  · rw [upd_ne (fun z : a = p => n (by rw [z]; exact hp))]; exact e
  · rw [upd_ne (ne_of e h (by intro z; cases z))]; exact e
  · rw [upd_ne (ne_of e h (by intro z; cases z))]; exact e
  · by_cases z : a = p
    · rw [z, upd_same] at e; cases e
    · rw [upd_ne z] at e; exact e
theorem Step.ins {F : List Addr} {H : Hp} {p C dx : Addr} {xs ys : List (Str × V)} (h : H p = some (.ins C dx xs)) (hp : p ∈ F) : Step F H (upd H p (.ins C dx ys)) := by
  refine ⟨fun a u e n => ?_, fun a vs e => ?_, fun a u w e => ?_, fun a e => ?_⟩
  · rw [upd_ne (fun z : a = p => n (by rw [z]; exact hp))]; exact e
  · rw [upd_ne (ne_of e h (by intro z; cases z))]; exact e
  · rw [upd_ne (ne_of e h (by intro z; cases z))]; exact e
  · by_cases z : a = p
    · rw [z, upd_same] at e; cases e
    · rw [upd_ne z] at e; exact e
theorem Step.some {F : List Addr} {H H' : Hp} (s : Step F H H') {a : Addr} {o : HO} (h : H a = some o) : ∃ u, H' a = some u := by
  cases q : H' a with
  | none => rw [s.back a q] at h; cases h
  | some u => exact ⟨u, rfl⟩

mutual
theorem Rep.mono {G : Cxt} {F : List Addr} {H H' : Hp} (s : Step F H H') : ∀ {v : V} {d : D}, Rep G H v d → Rep G H' v d
  | _, .non, h => by cases h; exact .non
  | _, .bl b, h => by cases h; exact .bl b
  | _, .int b, h => by cases h; exact .int b
  | _, .str b, h => by cases h; exact .str b
  | _, .tup ds, h => by
    cases h with
    | tup e r => exact .tup (e.elim (fun z => .inl (s.tup _ _ z)) .inr) (RepL.mono s r)
  | _, .lst ds, h => by
    cases h with
    | lst e r => exact .lst (e.elim (fun ⟨o, z⟩ => .inl ⟨o, s.frz _ _ _ z⟩) .inr) (RepL.mono s r)
  | _, .fn x, h => by cases h with | fn e => exact .fn e
theorem RepL.mono {G : Cxt} {F : List Addr} {H H' : Hp} (s : Step F H H') : ∀ {vs : List V} {ds : List D}, RepL G H vs ds → RepL G H' vs ds
  | _, [], h => by cases h; exact .nil
  | _, d :: ds, h => by cases h with | cons a b => exact .cons (Rep.mono s a) (RepL.mono s b)
end
section
variable {G : Cxt} {H : Hp}
theorem RepL.length : ∀ {vs : List V} {ds : List D}, RepL G H vs ds → vs.length = ds.length
  | _, _, .nil => rfl
  | _, _, .cons _ t => by rw [List.length_cons, List.length_cons, RepL.length t]
theorem RepL.get : ∀ {vs : List V} {ds : List D} {i : Nat} {d : D}, RepL G H vs ds → ds[i]? = some d → ∃ v, vs[i]? = some v ∧ Rep G H v d
  | _, _, _, _, .nil, e => by simp at e
  | _, _, 0, _, .cons r _, e => by
    simp at e; subst e; exact ⟨_, rfl, r⟩
  | _, _, i + 1, d, .cons _ t, e => by
    obtain ⟨v, h1, h2⟩ := RepL.get (i := i) (d := d) t (by simpa using e)
    exact ⟨v, by simpa using h1, h2⟩
theorem RepL.getV : ∀ {vs : List V} {ds : List D} {i : Nat} {v : V}, RepL G H vs ds → vs[i]? = some v → ∃ d, ds[i]? = some d ∧ Rep G H v d
  | _, _, _, _, .nil, e => by simp at e
  | _, _, 0, _, .cons r _, e => by
    simp at e; subst e; exact ⟨_, rfl, r⟩
  | _, _, i + 1, d, .cons _ t, e => by
    obtain ⟨v, h1, h2⟩ := RepL.getV (i := i) (v := d) t (by simpa using e)
    exact ⟨v, by simpa using h1, h2⟩
theorem RepL.append : ∀ {vs ws : List V} {ds es : List D}, RepL G H vs ds → RepL G H ws es → RepL G H (vs ++ ws) (ds ++ es)
  | _, _, _, _, .nil, s => s
  | _, _, _, _, .cons r t, s => .cons r (RepL.append t s)
theorem RepL.one {v : V} {d : D} (h : Rep G H v d) : RepL G H [v] [d] := .cons h .nil
theorem RepL.set {x : V} {d : D} (r : Rep G H x d) : ∀ {vs : List V} {ds : List D} (i : Nat), RepL G H vs ds → RepL G H (vs.set i x) (ds.set i d)
  | _, _, _, .nil => .nil
  | _, _, 0, .cons _ t => .cons r t
  | _, _, i + 1, .cons q t => .cons q (RepL.set r i t)
theorem RepL.take : ∀ {vs : List V} {ds : List D} (n : Nat), RepL G H vs ds → RepL G H (vs.take n) (ds.take n)
  | _, _, 0, _ => by rw [List.take_zero, List.take_zero]; exact .nil
  | _, _, _ + 1, .nil => by rw [List.take_nil, List.take_nil]; exact .nil
  | _, _, n + 1, .cons r t => by rw [List.take_succ_cons, List.take_succ_cons]; exact .cons r (RepL.take n t)
theorem RepL.drop : ∀ {vs : List V} {ds : List D} (n : Nat), RepL G H vs ds → RepL G H (vs.drop n) (ds.drop n)
  | _, _, 0, r => r
  | _, _, _ + 1, .nil => by rw [List.drop_nil, List.drop_nil]; exact .nil
  | _, _, n + 1, .cons _ t => by rw [List.drop_succ_cons, List.drop_succ_cons]; exact RepL.drop n t
theorem RepL.eraseIdx : ∀ {vs : List V} {ds : List D} (n : Nat), RepL G H vs ds → RepL G H (vs.eraseIdx n) (ds.eraseIdx n)
  | _, _, _, .nil => .nil
  | _, _, 0, .cons _ t => t
  | _, _, n + 1, .cons r t => .cons r (RepL.eraseIdx n t)
theorem RepL.rep {vs : List V} {ds : List D} (h : RepL G H vs ds) : ∀ k : Nat, RepL G H (List.replicate k vs).flatten (List.replicate k ds).flatten
  | 0 => .nil
  | k + 1 => by
    rw [List.replicate_succ, List.replicate_succ, List.flatten_cons, List.flatten_cons]
    exact h.append (h.rep k)
end

mutual
theorem Rep.dp {G : Cxt} {H : Hp} : ∀ {d : D} {v : V}, plain d = true → Rep G H v d → Dp G.K H v (toP d)
  | .non, _, _, h => by cases h; exact .non
  | .bl b, _, _, h => by cases h; exact .bl b
  | .int i, _, _, h => by cases h; exact .int i
  | .str s, _, _, h => by cases h; exact .str s
  | .tup ds, _, p, h => by
    cases h with
    | tup e r => exact .tup (e.elim (fun z => .inl (.inl z)) .inr) (RepL.dp (by simpa [plain] using p) r)
  | .lst ds, _, p, h => by
    cases h with
    | lst e r => exact .lst (e.elim (fun ⟨o, z⟩ => .inl (.inr ⟨o, z⟩)) .inr) (RepL.dp (by simpa [plain] using p) r)
  | .fn _, _, p, _ => by simp [plain] at p
theorem RepL.dp {G : Cxt} {H : Hp} : ∀ {ds : List D} {vs : List V}, plains ds = true → RepL G H vs ds → DpAll G.K H vs (toPs ds)
  | [], _, _, h => by cases h; exact .nil
  | d :: ds, _, p, h => by
    have p' : plain d = true ∧ plains ds = true := by simpa [plains] using p
    cases h with
    | cons a b => exact .cons (Rep.dp p'.1 a) (RepL.dp p'.2 b)
end

inductive Fd where
  | val (d : D) | lst (ds : List D)
inductive Sl where
  | non | fd (x : Fd) | ins (C : Cn) (fs : List (Fn × Fd))
abbrev Env := List Sl
/-- the addresses that a slot owns -/
structure Ft where
  self : Option Addr
  fl : List (Option Addr)
def Ft.ads (f : Ft) : List Addr := f.self.toList ++ f.fl.filterMap id
abbrev Fts := List Ft
def adsOf (ft : Fts) : List Addr := ft.flatMap Ft.ads
def ft0 : Ft := ⟨none, []⟩
def ftL (p : Addr) : Ft := ⟨some p, []⟩

def FdR (G : Cxt) (H : Hp) (v : V) : Fd → Option Addr → Prop
  | .val d, f => f = none ∧ Rep G H v d
  | .lst ds, f => ∃ p vs, v = .ref p ∧ f = some p ∧ H p = some (.lst vs) ∧ RepL G H vs ds
def FdsR (G : Cxt) (H : Hp) : List (Str × V) → List (Fn × Fd) → List (Option Addr) → Prop
  | [], [], [] => True
  | (n, v) :: gs, (m, x) :: fs, f :: fl => n = m.str ∧ FdR G H v x f ∧ FdsR G H gs fs fl
  | _, _, _ => False
def SlR (G : Cxt) (H : Hp) (o : Option V) (f : Ft) : Sl → Prop
  | .non => f = ft0
  | .fd x => ∃ v, o = some v ∧ FdR G H v x f.self ∧ f.fl = []
  | .ins C fs => ∃ p dx gs, o = some (.ref p) ∧ f.self = some p ∧ H p = some (.ins (G.cl C) dx gs) ∧ FdsR G H gs fs f.fl ∧ fs.length < 900
def EnvR (G : Cxt) (H : Hp) : L2.St → Env → Fts → Prop
  | [], [], [] => True
  | o :: σ, s :: ρ, f :: ft => SlR G H o f s ∧ EnvR G H σ ρ ft
  | _, _, _ => False

section
variable {G : Cxt} {H H' : Hp} {F : List Addr}
theorem FdR.mono (s : Step F H H') : ∀ {x : Fd} {v : V} {f : Option Addr}, FdR G H v x f → (∀ p, f = some p → p ∉ F) → FdR G H' v x f
  | .val d, v, f, ⟨e, r⟩, _ => ⟨e, r.mono s⟩
  | .lst ds, v, f, ⟨p, vs, e1, e2, h, r⟩, n => ⟨p, vs, e1, e2, s.keep _ _ h (n p e2), r.mono s⟩
theorem FdsR.mono (s : Step F H H') : ∀ {gs : List (Str × V)} {fs : List (Fn × Fd)} {fl : List (Option Addr)}, FdsR G H gs fs fl → (∀ p, some p ∈ fl → p ∉ F) → FdsR G H' gs fs fl
  | [], [], [], _, _ => trivial
  | (n, v) :: gs, (m, x) :: fs, f :: fl, ⟨e, r, t⟩, h => ⟨e, r.mono s (fun p z => h p (by rw [z]; exact List.mem_cons_self)), FdsR.mono s t fun p z => h p (List.mem_cons_of_mem _ z)⟩
  | [], [], _ :: _, h, _ => h.elim
  | [], _ :: _, _, h, _ => h.elim
  | _ :: _, [], _, h, _ => h.elim
  | (_, _) :: _, (_, _) :: _, [], h, _ => h.elim
theorem Ft.self_mem {f : Ft} {p : Addr} (h : f.self = some p) : p ∈ f.ads := by
  unfold Ft.ads; rw [h]; exact List.mem_append_left _ (by simp)
theorem Ft.fl_mem {f : Ft} {p : Addr} (h : some p ∈ f.fl) : p ∈ f.ads := by
  unfold Ft.ads
  exact List.mem_append_right _ (List.mem_filterMap.mpr ⟨some p, h, rfl⟩)
theorem SlR.mono (s : Step F H H') {o : Option V} {f : Ft} : ∀ {x : Sl}, SlR G H o f x → (∀ p ∈ f.ads, p ∉ F) → SlR G H' o f x
  | .non, h, _ => h
  | .fd x, ⟨v, e, r, z⟩, n => ⟨v, e, r.mono s fun p q => n p (Ft.self_mem q), z⟩
  | .ins C fs, ⟨p, dx, gs, e1, e2, h, r, z⟩, n => ⟨p, dx, gs, e1, e2, s.keep _ _ h (n p (Ft.self_mem e2)), r.mono s fun q hq => n q (Ft.fl_mem hq), z⟩
theorem EnvR.length : ∀ {σ : L2.St} {ρ : Env} {ft : Fts}, EnvR G H σ ρ ft → σ.length = ρ.length ∧ ft.length = ρ.length
  | [], [], [], _ => ⟨rfl, rfl⟩
  | _ :: σ, _ :: ρ, _ :: ft, ⟨_, t⟩ => by
    have := EnvR.length t
    exact ⟨by simp [this.1], by simp [this.2]⟩
  | [], [], _ :: _, h => h.elim
  | [], _ :: _, _, h => h.elim
  | _ :: _, [], _, h => h.elim
  | _ :: _, _ :: _, [], h => h.elim
theorem EnvR.get : ∀ {σ : L2.St} {ρ : Env} {ft : Fts} {i : Nat} {s : Sl}, EnvR G H σ ρ ft → ρ[i]? = some s → ∃ o f, σ[i]? = some o ∧ ft[i]? = some f ∧ SlR G H o f s
  | _ :: σ, _ :: ρ, _ :: ft, 0, s, ⟨a, _⟩, e => by
    simp at e; subst e; exact ⟨_, _, rfl, rfl, a⟩
  | _ :: σ, _ :: ρ, _ :: ft, i + 1, s, ⟨_, t⟩, e => by
    obtain ⟨o, f, h1, h2, h3⟩ := EnvR.get (i := i) t (by simpa using e)
    exact ⟨o, f, by simpa using h1, by simpa using h2, h3⟩
  | [], [], [], i, s, _, e => by simp at e
  | [], [], _ :: _, _, _, h, _ => h.elim
  | [], _ :: _, _, _, _, h, _ => h.elim
  | _ :: _, [], _, _, _, h, _ => h.elim
  | _ :: _, _ :: _, [], _, _, h, _ => h.elim
/-- by places -/
theorem EnvR.of : ∀ {σ : L2.St} {ρ : Env} {ft : Fts}, σ.length = ρ.length → ft.length = ρ.length → (∀ (i : Nat) (o : Option V) (f : Ft) (s : Sl), σ[i]? = some o → ft[i]? = some f → ρ[i]? = some s → SlR G H o f s) → EnvR G H σ ρ ft
  | [], [], [], _, _, _ => trivial
  | o :: σ, s :: ρ, f :: ft, h1, h2, h => ⟨h 0 o f s rfl rfl rfl, EnvR.of (by simpa using h1) (by simpa using h2) fun i o f s a b c => h (i + 1) o f s (by simpa using a) (by simpa using b) (by simpa using c)⟩
  | [], _ :: _, _, h1, _, _ => by simp at h1
  | _ :: _, [], _, h1, _, _ => by simp at h1
  | [], [], _ :: _, _, h2, _ => by simp at h2
  | _ :: _, _ :: _, [], _, h2, _ => by simp at h2
theorem EnvR.at_ {σ : L2.St} {ρ : Env} {ft : Fts} (h : EnvR G H σ ρ ft) {i : Nat} {o : Option V} {f : Ft} {s : Sl} (a : σ[i]? = some o) (b : ft[i]? = some f) (c : ρ[i]? = some s) : SlR G H o f s := by
  obtain ⟨o', f', e1, e2, r⟩ := h.get c
  rw [a] at e1; rw [b] at e2; cases e1; cases e2
  exact r
theorem mem_ads {ft : Fts} {i : Nat} {f : Ft} {p : Addr} (h : ft[i]? = some f) (hp : p ∈ f.ads) : p ∈ adsOf ft := List.mem_flatMap.mpr ⟨f, List.mem_of_getElem? h, hp⟩
theorem EnvR.mono (s : Step F H H') {σ : L2.St} {ρ : Env} {ft : Fts} (h : EnvR G H σ ρ ft) (n : ∀ p ∈ adsOf ft, p ∉ F) : EnvR G H' σ ρ ft := by
  refine EnvR.of h.length.1 h.length.2 fun i o f x a b c => ?_
  exact (h.at_ a b c).mono s fun p hp => n p (mem_ads b hp)
/-- addresses of two slots are apart -/
theorem nd_apart : ∀ {ft : Fts} {i j : Nat} {f g : Ft} {p : Addr}, (adsOf ft).Nodup → ft[i]? = some f → ft[j]? = some g → p ∈ f.ads → p ∈ g.ads → i = j := by
  intro ft
  induction ft with
  | nil => intro i j f g p _ h; simp at h
  | cons x r ih =>
    intro i j f g p nd h1 h2 m1 m2
    have nd' : (x.ads ++ adsOf r).Nodup := nd
    obtain ⟨n1, n2, n3⟩ := List.nodup_append.mp nd'
    cases i with
    | zero =>
      cases j with
      | zero => rfl
      | succ j =>
        simp at h1 h2; subst h1
        exact absurd rfl (n3 p m1 p (mem_ads h2 m2))
    | succ i =>
      cases j with
      | zero =>
        simp at h1 h2; subst h2
        exact absurd rfl (n3 p m2 p (mem_ads h1 m1))
      | succ j =>
        simp at h1 h2
        rw [ih n2 h1 h2 m1 m2]
/-- what an environment owns is known -/
theorem FdsR.known : ∀ {gs : List (Str × V)} {fs : List (Fn × Fd)} {fl : List (Option Addr)} {p : Addr}, FdsR G H gs fs fl → some p ∈ fl → ∃ vs, H p = some (.lst vs)
  | [], [], [], p, _, h => by cases h
  | (n, v) :: gs, (m, x) :: fs, f :: fl, p, ⟨e, r, t⟩, h => by
    rcases List.mem_cons.mp h with z | z
    · subst z
      cases x with
      | val d => exact absurd r.1 (by simp)
      | lst ds =>
        obtain ⟨q, vs, _, e2, h3, _⟩ := r
        cases e2; exact ⟨vs, h3⟩
    · exact FdsR.known t z
  | [], [], _ :: _, _, h, _ => h.elim
  | [], _ :: _, _, _, h, _ => h.elim
  | _ :: _, [], _, _, h, _ => h.elim
  | (_, _) :: _, (_, _) :: _, [], _, h, _ => h.elim
theorem SlR.known {o : Option V} {f : Ft} {p : Addr} : ∀ {x : Sl}, SlR G H o f x → p ∈ f.ads → (∃ vs, H p = some (.lst vs)) ∨ ∃ C dx gs, H p = some (.ins C dx gs)
  | .non, h, m => by
    have e : f = ft0 := h
    subst e; simp [Ft.ads, ft0] at m
  | .fd x, ⟨v, e, r, z⟩, m => by
    have m' : f.self = some p := by
      unfold Ft.ads at m; rw [z] at m
      simpa using m
    cases x with
    | val d => rw [r.1] at m'; cases m'
    | lst ds =>
      obtain ⟨q, vs, _, e2, h3, _⟩ := r
      rw [m'] at e2; cases e2
      exact .inl ⟨vs, h3⟩
  | .ins C fs, ⟨q, dx, gs, e1, e2, h, r, z⟩, m => by
    unfold Ft.ads at m
    rw [e2] at m
    rcases List.mem_append.mp m with m | m
    · have : p = q := by simpa using m
      subst this
      exact .inr ⟨_, _, _, h⟩
    · obtain ⟨a, ha, e⟩ := List.mem_filterMap.mp m
      have : a = some p := e
      subst this
      exact .inl (r.known ha)
theorem EnvR.known {σ : L2.St} {ρ : Env} {ft : Fts} (h : EnvR G H σ ρ ft) {p : Addr} (m : p ∈ adsOf ft) : (∃ vs, H p = some (.lst vs)) ∨ ∃ C dx gs, H p = some (.ins C dx gs) := by
  obtain ⟨f, hf, hp⟩ := List.mem_flatMap.mp m
  obtain ⟨i, hi, e⟩ := List.mem_iff_getElem.mp hf
  have e' : ft[i]? = some f := by rw [List.getElem?_eq_getElem hi, e]
  have l := h.length
  have hr : i < ρ.length := by omega
  obtain ⟨o, f', h1, h2, r⟩ := h.get (i := i) (s := ρ[i]) (List.getElem?_eq_getElem hr)
  rw [e'] at h2; cases h2
  exact r.known hp
theorem EnvR.known' {σ : L2.St} {ρ : Env} {ft : Fts} (h : EnvR G H σ ρ ft) {p : Addr} (m : p ∈ adsOf ft) : ∃ o, H p = some o := by
  rcases h.known m with ⟨vs, e⟩ | ⟨C, dx, gs, e⟩ <;> exact ⟨_, e⟩
theorem EnvR.free {σ : L2.St} {ρ : Env} {ft : Fts} (h : EnvR G H σ ρ ft) {p : Addr} (n : H p = none) : p ∉ adsOf ft := fun m => by
  obtain ⟨o, e⟩ := h.known' m
  rw [n] at e; cases e
/-- a slot is set -/
theorem EnvR.set {σ : L2.St} {ρ : Env} {ft : Fts} (h : EnvR G H σ ρ ft) (i : Nat) {o : Option V} {f : Ft} {s : Sl} (r : SlR G H o f s) : EnvR G H (σ.set i o) (ρ.set i s) (ft.set i f) := by
  have l := h.length
  refine EnvR.of (by simpa using l.1) (by simpa using l.2) fun j o' f' s' a b c => ?_
  by_cases e : i = j
  · subst e
    have hi : i < ρ.length := by
      have := (List.getElem?_eq_some_iff.mp c).1
      simpa using this
    rw [List.getElem?_set_self (by omega)] at a b c
    cases a; cases b; cases c
    exact r
  · rw [List.getElem?_set_ne e] at a b c
    exact h.at_ a b c
end
end DL

/-! DLz -/
namespace DL
open PySem PySem.Spec PyProof.Rows L2

/-! ## list(zip(a, b)) of two lists -/
theorem zip_len0 : typeLookup (.type "zip") "__len__" = pure none := am_miss_of_fast (by decide +kernel)
theorem zip_hint0 : typeLookup (.type "zip") "__length_hint__" = pure none := am_miss_of_fast (by decide +kernel)
/-- a zip behind i items; S is the list that takes them -/
structure ZSt (z TI TO i1 i2 a b S : Addr) (i : Nat) (h : Heap) : Prop where
  pr : IsPair h TI (.ref i1) (.ref i2)
  tl : ∃ o, h.get? TO = some o
  h1 : h.IsListIter i1 a i
  h2 : h.IsListIter i2 b i
  out : (IsZip h z TI TO .none ∧ ∃ x y, IsPair h TO x y) ∨ ∃ T f oT, IsZipHeld h z TI TO T f ∧ h.get? T = some oT ∧ T ≠ z ∧ T ≠ i1 ∧ T ≠ i2 ∧ T ≠ S
theorem ZSt.keep {z TI TO i1 i2 a b S : Addr} {i : Nat} {h h' : Heap} (Z : ZSt z TI TO i1 i2 a b S i h) (hS : z ≠ S ∧ TI ≠ S ∧ TO ≠ S ∧ i1 ≠ S ∧ i2 ≠ S) (k : ∀ c o, c ≠ S → h.get? c = some o → h'.get? c = some o) : ZSt z TI TO i1 i2 a b S i h' := by
  obtain ⟨s1, s2, s3, s4, s5⟩ := hS
  refine ⟨k _ _ s2 Z.pr, Z.tl.imp fun o e => k _ _ s3 e, Z.h1.at fun o e => k _ o s4 e, Z.h2.at fun o e => k _ o s5 e, ?_⟩
  rcases Z.out with ⟨hz, x, y, hTO⟩ | ⟨T, f, oT, hz, hT, r1, r2, r3, r4⟩
  · exact .inl ⟨k _ _ s1 hz, x, y, k _ _ s3 hTO⟩
  · exact .inr ⟨T, f, oT, k _ _ s1 hz, k _ _ r4 hT, r1, r2, r3, r4⟩
theorem SqL.grow {K : PySem.W.Frag} {H H' : Hp} {a : Addr} {xs : List V} (h : SqL K H a xs) (g : ∀ c o, H c = some o → H' c = some o) : SqL K H' a xs := by
  rcases h with (e | ⟨o, e⟩) | e
  · exact .inl (.inl (g _ _ e))
  · exact .inl (.inr ⟨o, g _ _ e⟩)
  · exact .inr e
/-- the pairs that were given out -/
def Given (H : Hp) (xs ys : List V) (Ts : List Addr) : Prop := ∀ (j : Nat) (T : Addr), Ts[j]? = some T → ∃ x y, xs[j]? = some x ∧ ys[j]? = some y ∧ H T = some (.tup [x, y])
theorem given_snoc {H : Hp} {xs ys : List V} {Ts : List Addr} {T : Addr} {x y : V} (h : Given H xs ys Ts) (hx : xs[Ts.length]? = some x) (hy : ys[Ts.length]? = some y) (hT : H T = some (.tup [x, y])) : Given H xs ys (Ts ++ [T]) := by
  intro j U hj
  by_cases c : j < Ts.length
  · rw [List.getElem?_append_left c] at hj; exact h j U hj
  · have hl := (List.getElem?_eq_some_iff.mp hj).1
    simp at hl
    have e : j = Ts.length := by omega
    subst e
    have : U = T := by simpa using hj.symm
    subst this
    exact ⟨x, y, hx, hy, hT⟩
section
variable {X : Cx} {pins : List (Addr × Obj)} {σ : L2.St} {z TI TO i1 i2 a b S : Addr} {xs ys : List V} {R : Result → Shared → Prop} {H1 : Hp} {A : Around}
theorem drain_zip (hA : A.handled = none) (D : ZipApart z TI TO i1 i2 a b) (hS : z ≠ S ∧ TI ≠ S ∧ TO ≠ S ∧ i1 ≠ S ∧ i2 ≠ S) (la : SqL X.K H1 a xs) (lb : SqL X.K H1 b ys) (hn : min xs.length ys.length ≤ 100000)
    (hR : ∀ (H : Hp) (s : Shared) (Ts : List Addr), Inv X pins σ H s → Ts.length = min xs.length ys.length → H S = some (.lst (Ts.map V.ref)) → (∀ c o, H1 c = some o → H c = some o) → Given H xs ys Ts → R (.ok (.ret .none)) s) :
    ∀ (k i : Nat) (s : Shared) (H : Hp) (Ts : List Addr), min xs.length ys.length - i = k → i ≤ min xs.length ys.length → Inv X pins σ H s → (∀ c ∈ [z, TI, TO, i1, i2], FpOk X pins H c) → ZSt z TI TO i1 i2 a b S i s.heap → Ts.length = i →
      H S = some (.lst (Ts.map V.ref)) → (∀ c o, H1 c = some o → H c = some o ∧ c ≠ S) → Given H xs ys Ts → codeAny (model X.prog X.w) A (.builtin "list.extend.loop" ⟨[.ref S, .ref z, .none], []⟩) R s := by
  intro k
  induction k with
  | zero =>
    intro i s H Ts hk hi I hf Z hl hH hg hG
    obtain ⟨its, rv, p1, _⟩ := I.list (SqL.grow la fun c o e => (hg c o e).1)
    obtain ⟨its2, rv2, p2, _⟩ := I.list (SqL.grow lb fun c o e => (hg c o e).1)
    have e1 := rv.length
    have e2 := rv2.length
    have hend : its.toArray[i]? = none ∨ its2.toArray[i]? = none := by
      by_cases c : xs.length ≤ i
      · exact .inl (by simp; omega)
      · exact .inr (by simp; omega)
    refine codeAny_builtin F.entry_extend_loop ?_
    rw [Around.under_plainId F.plain_extend_loop _]
    show wpAny _ A.in1 (pyNext (.ref z) >>= _) _ _ s
    refine wpAny_bind ?_
    have fin : ∀ h' : Heap, (∀ c o, c ∉ [z, TI, TO, i1, i2] → s.heap.get? c = some o → h'.get? c = some o) → R (.ok (.ret .none)) { s with heap := h' } := fun h' hk' => by
      refine hR H _ Ts (I.turnedL (t' := s.toks) (ch := [z, TI, TO, i1, i2]) hk' hf) (by omega) hH (fun c o e => (hg c o e).1) hG
    rcases Z.out with ⟨hz, x, y, hTO⟩ | ⟨T, f, oT, hz, hT, r1, r2, r3, r4⟩
    · refine wpAny_pyNext_zip_end (show A.in1.handled = none from hA) D hz Z.pr hTO Z.h1 Z.h2 p1.isList p2.isList hend fun h' hk' => wpAny_pure (fin h' fun c o hc e => ?_)
      simp only [List.mem_cons, List.not_mem_nil, or_false, not_or] at hc
      exact hk' c o hc.1 hc.2.2.1 hc.2.2.2.1 hc.2.2.2.2 e
    · refine wpAny_pyNext_zip_end_held (show A.in1.handled = none from hA) D hz hT Z.pr Z.h1 Z.h2 p1.isList p2.isList hend fun h' hk' => wpAny_pure (fin h' fun c o hc e => ?_)
      simp only [List.mem_cons, List.not_mem_nil, or_false, not_or] at hc
      exact hk' c o hc.1 hc.2.2.2.1 hc.2.2.2.2 e
  | succ k ih =>
    intro i s H Ts hk hi I hf Z hl hH hg hG
    obtain ⟨its, rv, p1, _⟩ := I.list (SqL.grow la fun c o e => (hg c o e).1)
    obtain ⟨its2, rv2, p2, _⟩ := I.list (SqL.grow lb fun c o e => (hg c o e).1)
    have hx : xs[i]? = some xs[i] := List.getElem?_eq_getElem (by omega)
    have hy : ys[i]? = some ys[i] := List.getElem?_eq_getElem (by omega)
    generalize xs[i] = x at hx
    generalize ys[i] = y at hy
    obtain ⟨u, hu, ru⟩ := rv.get hx
    obtain ⟨u2, hu2, ru2⟩ := rv2.get hy
    refine codeAny_builtin F.entry_extend_loop ?_
    rw [Around.under_plainId F.plain_extend_loop _]
    show wpAny _ A.in1 (pyNext (.ref z) >>= _) _ _ s
    refine wpAny_bind ?_
    obtain ⟨zS, itsS, nS, rS, lS, eS⟩ := I.lstM hH
    have ltS : S < s.heap.objs.size := Heap.lt_size eS
    have lt : ∀ {c o}, s.heap.get? c = some o → c < s.heap.objs.size := fun e => Heap.lt_size e
    have l1 : i1 < s.heap.objs.size := let ⟨_, e, _⟩ := Z.h1; lt e
    have l2 : i2 < s.heap.objs.size := let ⟨_, e, _⟩ := Z.h2; lt e
    have lTI : TI < s.heap.objs.size := lt Z.pr
    -- behind one item: it is put into S
    have turn : ∀ h' : Heap, (∀ c o, c ∉ [z, TI, TO, i1, i2] → s.heap.get? c = some o → h'.get? c = some o) → ZSt z TI TO i1 i2 a b S (i + 1) h' → IsPair h' s.heap.objs.size u u2 → h'.objs.size = s.heap.objs.size + 1 → z < s.heap.objs.size → TO < s.heap.objs.size →
        wpAny (model X.prog X.w) A.in1 (updateSeq S (·.push (.ref s.heap.objs.size)) >>= fun _ => again (.builtin "list.extend.loop" ⟨[.ref S, .ref z, .none], []⟩)) (fun fin s' => match fin with | .done f => R (.ok f) s' | .again c' => c'.quiet = true ∧ codeAny (model X.prog X.w) A c' R s') (fun e s' => R (.error e) s') { s with heap := h' } := fun h' hk' Z' hT hsz lz lTO => by
      have fr : H s.heap.objs.size = none := I.hok.fresh (Nat.le_refl _)
      have new : ObjOk X.prog X.w (upd H s.heap.objs.size (.tup [x, y])) h' s.heap.objs.size (.tup [x, y]) :=
        ⟨by show 2 ≤ sizeLine; decide, [u, u2], .cons ru (.cons ru2 .nil), ⟨_, hT, rfl, _, rfl⟩⟩
      have I1 : Inv X pins σ (upd H s.heap.objs.size (.tup [x, y])) { s with heap := h' } := I.turnedNew (t' := s.toks) (ch := [z, TI, TO, i1, i2]) hk' hf (Nat.le_refl _) new
      have hH1 : upd H s.heap.objs.size (.tup [x, y]) S = some (.lst (Ts.map V.ref)) := by rw [upd_ne (Nat.ne_of_lt ltS)]; exact hH
      obtain ⟨zS1, itsS1, nS1, rS1, lS1, eS1⟩ := I1.lstM hH1
      have hz5 : i + 1 ≤ sizeLine := Nat.le_trans (show i + 1 ≤ 100000 by omega) (by rw [sizeLine_eq]; decide)
      have hlen : itsS1.length = i := by rw [← lS1, List.length_map, hl]
      refine wpAny_bind (wpAny_updateSeq eS1 rfl ?_ (by rw [List.size_toArray, hlen]; omega) (by show (itsS1.toArray.push _).size ≤ _; rw [Array.size_push, List.size_toArray, hlen]; omega))
      have I2 := I1.lset (its' := itsS1 ++ [.ref s.heap.objs.size]) (ys := Ts.map V.ref ++ [V.ref s.heap.objs.size]) (f := (·.push (.ref s.heap.objs.size))) (t' := s.toks) hH1 eS1 (by simp) (rS1.append (.cons (show RelV (V.ref s.heap.objs.size) (Value.ref s.heap.objs.size) from rfl) .nil)) (by rw [List.length_append, List.length_map, hl]; simp; omega)
      refine wpAny_pure ⟨plainId_quiet F.plain_extend_loop _, ih (i + 1) _ _ (Ts ++ [s.heap.objs.size]) (by omega) (by omega) I2 (fun c hc => ?_) (Z'.keep hS fun c o hc e => (Heap.get?_update_other _ _ (Ne.symm hc)).trans e) (by simp [hl]) ?_ (fun c o e => ?_) ?_⟩
      · have hlt : c < s.heap.objs.size := by
          simp only [List.mem_cons, List.not_mem_nil, or_false] at hc
          rcases hc with rfl | rfl | rfl | rfl | rfl
          · exact lz
          · exact lTI
          · exact lTO
          · exact l1
          · exact l2
        have hcS : c ≠ S := fun e => by
          have := (hf c hc).1
          rw [e, hH] at this; cases this
        have q := hf c hc
        refine ⟨?_, q.2⟩
        rw [upd_ne hcS, upd_ne (Nat.ne_of_lt hlt)]; exact q.1
      · rw [upd_same]; simp
      · obtain ⟨g1, g2⟩ := hg c o e
        refine ⟨?_, g2⟩
        rw [upd_ne g2, upd_ne (ne_of_none g1 fr)]; exact g1
      · have hG' : Given (upd (upd H s.heap.objs.size (.tup [x, y])) S (.lst (Ts.map V.ref ++ [V.ref s.heap.objs.size]))) xs ys Ts := by
          intro j T hj
          obtain ⟨x', y', q1, q2, q3⟩ := hG j T hj
          refine ⟨x', y', q1, q2, ?_⟩
          rw [upd_ne (ne_of q3 hH (by intro q; cases q)), upd_ne (ne_of_none q3 fr)]; exact q3
        refine given_snoc hG' (by rw [hl]; exact hx) (by rw [hl]; exact hy) ?_
        rw [upd_ne (Nat.ne_of_gt ltS), upd_same]
    rcases Z.out with ⟨hz, x0, y0, hTO⟩ | ⟨T, f, oT, hz, hT, r1, r2, r3, r4⟩
    · refine wpAny_pyNext_zip_item D hz Z.pr hTO Z.h1 Z.h2 p1.isList p2.isList (x := u) (y := u2) (by simpa using hu) (by simpa using hu2) fun h' a1 a2 a3 a4 a5 a6 hk' => ?_
      refine turn h' (fun c o hc e => ?_) ⟨hk' _ _ D.TIz D.TITO D.TIi1 D.TIi2 Z.pr, ⟨_, a2⟩, a3, a4, .inr ⟨s.heap.objs.size, false, _, a1, a5, Nat.ne_of_gt (lt hz), Nat.ne_of_gt l1, Nat.ne_of_gt l2, Nat.ne_of_gt ltS⟩⟩ a5 a6 (lt hz) (lt hTO)
      simp only [List.mem_cons, List.not_mem_nil, or_false, not_or] at hc
      exact hk' c o hc.1 hc.2.2.1 hc.2.2.2.1 hc.2.2.2.2 e
    · refine wpAny_pyNext_zip_item_held D hz hT Z.pr Z.h1 Z.h2 p1.isList p2.isList (x := u) (y := u2) (by simpa using hu) (by simpa using hu2) fun h' a1 a3 a4 a5 a6 hk' => ?_
      refine turn h' (fun c o hc e => ?_) ⟨hk' _ _ D.TIz D.TIi1 D.TIi2 Z.pr, Z.tl.imp fun o e => hk' _ _ D.TOz D.TOi1 D.TOi2 e, a3, a4, .inr ⟨T, true, oT, a1, hk' _ _ r1 r2 r3 hT, r1, r2, r3, r4⟩⟩ a5 a6 (lt hz) (let ⟨_, e⟩ := Z.tl; lt e)
      · simp only [List.mem_cons, List.not_mem_nil, or_false, not_or] at hc
        exact hk' c o hc.1 hc.2.2.2.1 hc.2.2.2.2 e

theorem call_list_zip {Q : Value → Shared → Prop} {E : Value → Shared → Prop} {s : Shared} (hA : A.handled = none) (D : ZipApart z TI TO i1 i2 a b) (I : L2.Inv X pins σ H1 s) (hf : ∀ c ∈ [z, TI, TO, i1, i2], FpOk X pins H1 c) (lt : ∀ c ∈ [z, TI, TO, i1, i2], c < s.heap.objs.size)
    (la : SqL X.K H1 a xs) (lb : SqL X.K H1 b ys) (hn : min xs.length ys.length ≤ 100000) (Z : IsPair s.heap TI (.ref i1) (.ref i2) ∧ IsZip s.heap z TI TO .none ∧ IsPair s.heap TO .none .none ∧ s.heap.IsListIter i1 a 0 ∧ s.heap.IsListIter i2 b 0)
    (hQ : ∀ (H : Hp) (s' : Shared) (S : Addr) (Ts : List Addr), L2.Inv X pins σ H s' → H1 S = none → Ts.length = min xs.length ys.length → H S = some (.lst (Ts.map V.ref)) → (∀ c o, H1 c = some o → H c = some o) → Given H xs ys Ts → Q (.ref S) s') :
    wpAny (model X.prog X.w) A (call (.type "list") [.ref z]) Q E s := by
  have fr : H1 s.heap.objs.size = none := I.hok.fresh (Nat.le_refl _)
  have hS : z ≠ s.heap.objs.size ∧ TI ≠ s.heap.objs.size ∧ TO ≠ s.heap.objs.size ∧ i1 ≠ s.heap.objs.size ∧ i2 ≠ s.heap.objs.size :=
    ⟨Nat.ne_of_lt (lt z (by simp)), Nat.ne_of_lt (lt TI (by simp)), Nat.ne_of_lt (lt TO (by simp)), Nat.ne_of_lt (lt i1 (by simp)), Nat.ne_of_lt (lt i2 (by simp))⟩
  refine callType_codes (Q₁ := fun obj s₁ => obj = .ref s.heap.objs.size ∧ s₁ = { s with heap := s.heap.push { cls := .type "list", data := .seq #[] } }) F.called_list (F.typeCall_list_1 _) F.entry_list_init (code_list_new _ ⟨rfl, rfl⟩) fun obj s₁ h₁ => ?_
  obtain ⟨rfl, rfl⟩ := h₁
  have e0 : (s.heap.push { cls := .type "list", data := .seq #[] }).get? s.heap.objs.size = some { cls := .type "list", data := .seq #[] } := Heap.get?_push_size _ rfl
  refine ⟨⟨_, e0, rfl⟩, F.args_list_init_2 _ _, ?_⟩
  have I0 : L2.Inv X pins σ (upd H1 s.heap.objs.size (.lst [])) { s with heap := s.heap.push { cls := .type "list", data := .seq #[] } } := I.lnew (its := []) (t' := s.toks) .nil (Nat.zero_le _)
  have z0 : ([] : List V).length ≤ sizeLine := Nat.zero_le _
  have z1 : ([V.non] : List V).length ≤ sizeLine := by show 1 ≤ sizeLine; decide
  show wpAny _ A.in1.in1 (do
    let old ← Builtin.List.listItems (.ref s.heap.objs.size)
    Builtin.List.listUpdate (.ref s.heap.objs.size) (fun _ => #[])
    letGo old.toList.reverse
    Builtin.List.listExtendWith (.ref s.heap.objs.size) (.ref z) .none) _ _ _
  refine wpAny_bind ?_
  unfold Builtin.List.listItems
  refine wpAny_bind (wpAny_seqItems e0 rfl (wpAny_pure ?_))
  show wpAny _ A.in1.in1 (updateSeq s.heap.objs.size (fun _ => #[]) >>= fun _ => letGo (#[] : Array Value).toList.reverse >>= fun _ =>
    Builtin.List.listExtendWith (.ref s.heap.objs.size) (.ref z) .none) _ _ _
  refine wpAny_bind (wpAny_updateSeq e0 rfl ?_)
  have I1 := I0.lset (its := []) (its' := []) (f := fun _ => #[]) (t' := s.toks) (by rw [upd_same]) e0 rfl .nil z0
  have e1 := PySem.IsL.update e0 (fun _ => (#[] : Array Value))
  refine wpAny_bind (wpAny_letGo ?_)
  have old1 : ∀ c o, s.heap.get? c = some o → (((s.heap.push { cls := .type "list", data := .seq #[] }).update s.heap.objs.size (Obj.mapSeq fun _ => #[]))).get? c = some o := fun c o e =>
    (Heap.get?_update_other _ _ (Ne.symm (Nat.ne_of_lt (Heap.lt_size e)))).trans (Heap.get?_push_of_some _ e)
  unfold Builtin.List.listExtendWith
  have tz : ∀ {h : Heap}, (∀ c o, s.heap.get? c = some o → h.get? c = some o) → ({ s with heap := h } : Shared).TypeIs (.ref z) "zip" := fun {h} k => ⟨_, k _ _ Z.2.1, rfl⟩
  refine wpAny_bind (wpAny_typeOf (tz old1) ?_)
  have g1 : Builtin.List.listSameRef (.ref s.heap.objs.size) (.ref z) = false := by simp [Builtin.List.listSameRef, hS.1.symm]
  have g2 : (Value.type "zip" == Value.type "list") = false := by decide
  have g3 : (Value.type "zip" == Value.type "tuple") = false := by decide
  simp only [g1, g2, g3, Bool.or_false, Bool.false_eq_true, if_false]
  refine wpAny_bind (wpAny_pyIter_zip (s := { s with heap := _ }) (old1 _ _ Z.2.1) ?_)
  refine wpAny_bind (wpAny_holding ?_)
  unfold Builtin.List.listLengthHint
  refine wpAny_bind (wpAny_specialOf (tz old1) zip_len0 ?_)
  show wpAny _ A.in1.in1 (specialOf (Value.ref z) (Str.ofString "__length_hint__") >>= _) _ _ _
  refine wpAny_bind (wpAny_specialOf (tz old1) zip_hint0 ?_)
  refine wpAny_pure ?_
  show wpAny _ A.in1.in1 (rule "list.extend.makes-room" >>= fun _ => Builtin.List.listTouch (.ref s.heap.objs.size) >>= fun _ => again (.builtin "list.extend.loop" ⟨[.ref s.heap.objs.size, .ref z, .none], []⟩)) _ _ _
  refine wpAny_bind (wpAny_rule ?_)
  refine wpAny_bind ?_
  show wpAny _ A.in1.in1 (updateSeq s.heap.objs.size (·.push .none) >>= fun _ => updateSeq s.heap.objs.size (·.pop)) _ _ _
  refine wpAny_bind (wpAny_updateSeq e1 rfl ?_)
  have I2 := I1.lset (its := []) (its' := [.none]) (ys := [V.non]) (f := (·.push .none)) (t' := s.toks) (by rw [upd_same]) e1 rfl (.cons rfl .nil) z1
  have e2 := PySem.IsL.update e1 (·.push Value.none)
  refine wpAny_updateSeq (hz := by seq_fits) e2 rfl ?_
  have I3 := I2.lset (its := [.none]) (its' := []) (ys := []) (f := (·.pop)) (t' := s.toks) (by rw [upd_same]) e2 rfl .nil z0
  have e3 := PySem.IsL.update e2 (·.pop)
  have old3 : ∀ c o, s.heap.get? c = some o → ((((s.heap.push { cls := .type "list", data := .seq #[] }).update s.heap.objs.size (Obj.mapSeq fun _ => #[])).update s.heap.objs.size (Obj.mapSeq (·.push Value.none))).update s.heap.objs.size (Obj.mapSeq (·.pop))).get? c = some o := fun c o e =>
    (Heap.get?_update_other _ _ (Ne.symm (Nat.ne_of_lt (Heap.lt_size e)))).trans ((Heap.get?_update_other _ _ (Ne.symm (Nat.ne_of_lt (Heap.lt_size e)))).trans (old1 c o e))
  have hup : ∀ c, c ≠ s.heap.objs.size → upd (upd (upd (upd H1 s.heap.objs.size (.lst [])) s.heap.objs.size (.lst [])) s.heap.objs.size (.lst [V.non])) s.heap.objs.size (.lst []) c = H1 c := fun c hc => by rw [upd_ne hc, upd_ne hc, upd_ne hc, upd_ne hc]
  refine wpAny_pure ⟨plainId_quiet F.plain_extend_loop _, drain_zip (A := A.in1) hA D hS la lb hn (fun H s' Ts I' hl hH hg hG => ⟨rfl, hQ H s' _ Ts I' fr hl hH hg hG⟩) _ 0 _ _ [] rfl (Nat.zero_le _) I3 (fun c hc => ?_)
    ⟨old3 _ _ Z.1, ⟨_, old3 _ _ Z.2.2.1⟩, Z.2.2.2.1.at fun o e => old3 _ o e, Z.2.2.2.2.at fun o e => old3 _ o e, .inl ⟨old3 _ _ Z.2.1, _, _, old3 _ _ Z.2.2.1⟩⟩ rfl (by rw [upd_same]; rfl) (fun c o e => ?_) (fun j T hj => by simp at hj)⟩
  · have q := hf c hc
    refine ⟨?_, q.2⟩
    rw [hup c (Nat.ne_of_lt (lt c hc))]; exact q.1
  · have ne : c ≠ s.heap.objs.size := ne_of_none e fr
    exact ⟨by rw [hup c ne]; exact e, ne⟩
/-- list(zip(a, b)): pairs in a new list -/
def tLZip (K : PySem.W.Frag) (ta : TA) : TE := fun σ H Q => ta σ H fun vs H1 => ∃ a b xs ys, vs = [.ref a, .ref b] ∧ SqL K H1 a xs ∧ SqL K H1 b ys ∧ min xs.length ys.length ≤ 100000 ∧
  ∀ (H2 : Hp) (S : Addr) (Ts : List Addr), H1 S = none → Ts.length = min xs.length ys.length → H2 S = some (.lst (Ts.map V.ref)) → (∀ c o, H1 c = some o → H2 c = some o) → (∀ c, H2 c = none → H1 c = none) → Given H2 xs ys Ts → Q (.ref S) H2
theorem pe_listZip {e e2 : Expr} {ta : TA} {p p2 pos pos2 : Pos} (hc : X.calm = true) (hg : Gl X "list") (hm : X.mg "list" = none) (hg2 : Gl X "zip") (hm2 : X.mg "zip" = none) (ha : PA X [e, e2] ta)
    (hs : starEach [e, e2] X.env = (false, eval e X.env) :: starEach [e2] X.env) (hpl : (backTo pos2 (starEach [e2] X.env)).any (·.1) = false) :
    PE X (.Call (.Name "list" p) [.Call (.Name "zip" p2) [e, e2] [] pos2] [] pos) (tLZip X.K ta) := by
  refine ⟨fun pins s σ H Q I h => ?_⟩
  have hz : wpAny (model X.prog X.w) X.A (eval (.Call (.Name "zip" p2) [e, e2] [] pos2) X.env) (fun v s1 => ∃ H1 B a b xs ys, v = .ref (B + 4) ∧ ZipApart (B + 4) (B + 2) (B + 3) B (B + 1) a b ∧ L2.Inv X pins σ H1 s1 ∧ (∀ c ∈ [B + 4, B + 2, B + 3, B, B + 1], FpOk X pins H1 c) ∧ (∀ c ∈ [B + 4, B + 2, B + 3, B, B + 1], c < s1.heap.objs.size) ∧ SqL X.K H1 a xs ∧ SqL X.K H1 b ys ∧ min xs.length ys.length ≤ 100000 ∧
      (IsPair s1.heap (B + 2) (.ref B) (.ref (B + 1)) ∧ IsZip s1.heap (B + 4) (B + 2) (B + 3) .none ∧ IsPair s1.heap (B + 3) .none .none ∧ s1.heap.IsListIter B a 0 ∧ s1.heap.IsListIter (B + 1) b 0) ∧ ∀ (H2 : Hp) (S : Addr) (Ts : List Addr), H1 S = none → Ts.length = min xs.length ys.length → H2 S = some (.lst (Ts.map V.ref)) → (∀ c o, H1 c = some o → H2 c = some o) → (∀ c, H2 c = none → H1 c = none) → Given H2 xs ys Ts → Q (.ref S) H2) X.xe s := by
    refine Call_ (ld_blt I hg2 hm2 PyProof.Rows.boot_zip (PyProof.Rows.callWith_type1 (thn (ha.run pos2 pins s σ H _ I h) fun us s1 ⟨vs, H1, I1, r1, q1⟩ => ?_) hs hpl))
    obtain ⟨a, b, xs, ys, ex, hqx, hqy, hn, q⟩ := q1
    subst ex
    cases r1 with
    | cons r rr =>
      cases rr with
      | cons r' rr =>
        cases rr
        cases r
        cases r'
        obtain ⟨its, rv, p1, _⟩ := I1.list hqx
        obtain ⟨its2, rv2, p2, _⟩ := I1.list hqy
        refine call_zip_2 p1.isList p2.isList fun h' hz hTI hTO h1 h2 hsz hk => ?_
        have I2 : L2.Inv X pins σ H1 { s1 with heap := h' } := I1.kept (t' := s1.toks) hk
        have near : ∀ c ∈ [s1.heap.objs.size + 4, s1.heap.objs.size + 2, s1.heap.objs.size + 3, s1.heap.objs.size, s1.heap.objs.size + 1], s1.heap.objs.size ≤ c ∧ c < s1.heap.objs.size + 5 := fun c hcm => by
          simp only [List.mem_cons, List.not_mem_nil, or_false] at hcm
          have : ∀ n : Nat, (c = n + 4 ∨ c = n + 2 ∨ c = n + 3 ∨ c = n ∨ c = n + 1) → n ≤ c ∧ c < n + 5 := fun n h => by omega
          exact this _ hcm
        refine ⟨H1, s1.heap.objs.size, a, b, xs, ys, rfl, PySem.W.ktu_apart s1.heap.objs.size a b p1.lt p2.lt, I2, fun c hcm => I1.fpOk (near c hcm).1 (I1.hok.fresh (near c hcm).1), fun c hcm => ?_, hqx, hqy, hn, ⟨hTI, hz, hTO, h1, h2⟩, q⟩
        show c < h'.objs.size
        rw [hsz]; exact (near c hcm).2
  refine Call_ (ld_blt I hg hm boot_list (PyProof.Rows.callWith_type1 (args_cons (thn hz fun v s1 ⟨H1, B, a, b, xs, ys, ev, D, I1, hf, lt, la, lb, hn, Z, q⟩ => args_nil ?_) rfl) rfl))
  subst ev
  exact call_list_zip (I1.ok.hd hc) D I1 hf lt la lb hn Z fun H' s' S Ts I' hS hl hH hg hG => ⟨.ref S, H', I', rfl, q H' S Ts hS hl hH hg (fun c hc => by cases z : H1 c with | none => rfl | some o => rw [hg c o z] at hc; cases hc) hG⟩
end
end DL

/-! DLb -/
namespace DL
open PySem PySem.Spec PyProof.Rows L2

/-! ## what an expression comes to -/
inductive Pl where
  | slot (i : Nat) | fld (i k : Nat)
inductive Ev where
  | val (d : D) | tmp (ds : List D) | at_ (p : Pl) | obj (C : Cn) (fs : List (Fn × Fd))

def lstAt (ρ : Env) : Pl → Option (List D)
  | .slot i => match ρ[i]? with
    | some (.fd (.lst ds)) => some ds
    | _ => none
  | .fld i k => match ρ[i]? with
    | some (.ins _ fs) => (match fs[k]? with
      | some (_, .lst ds) => some ds
      | _ => none)
    | _ => none
def setAt (ρ : Env) (p : Pl) (x : Fd) : Env := match p with
  | .slot i => ρ.set i (.fd x)
  | .fld i k => match ρ[i]? with
    | some (.ins C fs) => (match fs[k]? with
      | some (f, _) => ρ.set i (.ins C (fs.set k (f, x)))
      | none => ρ)
    | _ => ρ
def evVar (ρ : Env) (i : Nat) : Option Ev := match ρ[i]? with
  | some (.fd (.val d)) => some (.val d)
  | some (.fd (.lst _)) => some (.at_ (.slot i))
  | some (.ins _ _) => some (.at_ (.slot i))
  | _ => none
@[simp ↓, simp] def ixOf (f : Fn) : List (Fn × Fd) → Option Nat
  | [] => none
  | (g, _) :: r => if f = g then some 0 else (ixOf f r).map (· + 1)
def dof (ρ : Env) : Ev → Option D
  | .val d => some d
  | .tmp ds => some (.lst ds)
  | .at_ p => match lstAt ρ p with
    | some ds => some (.lst ds)
    | none => none
  | .obj _ _ => none
def lstOf (ρ : Env) : Ev → Option (List D)
  | .tmp ds => some ds
  | .at_ p => lstAt ρ p
  | _ => none
def seqOf (ρ : Env) (e : Ev) : Option (List D) := match dof ρ e with
  | some (.tup ds) => some ds
  | some (.lst ds) => some ds
  | _ => none
def valsOf : List Ev → Option (List D)
  | [] => some []
  | .val d :: r => match valsOf r with
    | some ds => some (d :: ds)
    | none => none
  | _ :: _ => none
def isNon : Ev → Bool
  | .val .non => true
  | _ => false

/-! ## promises -/
abbrev Spec := List Sl → (Fd → List Sl → Prop) → Prop
abbrev ISpec := List Sl → (List (Fn × Fd) → List Sl → Prop) → Prop
structure Gam where
  fn : List (Str × Spec) := []
  cst : List (Str × D) := []
  ini : List (Cn × Str × ISpec) := []
  met : List (Cn × Str × Spec) := []
  cls : List Cn := []
def evFld (Γ : Gam) (ρ : Env) (i : Nat) (f : Fn) : Option Ev := match ρ[i]? with
  | some (.ins C fs) => if (Γ.cls.contains C && clsFd C f) = true then (match ixOf f fs with
    | some k => (match fs[k]? with
      | some (_, .val d) => some (.val d)
      | some (_, .lst _) => some (.at_ (.fld i k))
      | none => none)
    | none => none) else none
  | _ => none
/-- an argument as the callee sees it -/
def slOf (ρ : Env) : Ev → Option Sl
  | .val d => some (.fd (.val d))
  | .tmp ds => some (.fd (.lst ds))
  | .at_ (.slot i) => match ρ[i]? with
    | some (.fd (.lst ds)) => some (.fd (.lst ds))
    | some (.ins C fs) => some (.ins C fs)
    | _ => none
  | .at_ (.fld i k) => match lstAt ρ (.fld i k) with
    | some ds => some (.fd (.lst ds))
    | none => none
  | .obj _ _ => none
def slsOf (ρ : Env) : List Ev → Option (List Sl)
  | [] => some []
  | e :: r => match slOf ρ e, slsOf ρ r with
    | some s, some ss => some (s :: ss)
    | _, _ => none
/-- the slots that arguments touch -/
def touch : List Ev → List Nat
  | [] => []
  | .at_ (.slot i) :: r => i :: touch r
  | .at_ (.fld i _) :: r => i :: touch r
  | _ :: r => touch r
/-- an argument's state behind the call -/
def wb1 (ρ : Env) (e : Ev) (s : Sl) : Env := match e, s with
  | .at_ (.slot i), s => ρ.set i s
  | .at_ (.fld i k), .fd x => setAt ρ (.fld i k) x
  | _, _ => ρ
def wb (ρ : Env) : List Ev → List Sl → Env
  | e :: r, s :: ss => wb (wb1 ρ e s) r ss
  | _, _ => ρ
/-- a list that is a field comes back as a list -/
def wbOk : List Ev → List Sl → Prop
  | .at_ (.fld _ _) :: r, s :: ss => (match s with
    | .fd (.lst _) => wbOk r ss
    | _ => False)
  | _ :: r, _ :: ss => wbOk r ss
  | _, _ => True
def evOf : Fd → Ev
  | .val d => .val d
  | .lst ds => .tmp ds

/-! ## the core -/
inductive BOp where
  | add | sub | mul | fdiv | mod | pow
inductive COp where
  | lt | le | gt | ge | eq | ne
inductive Ty where
  | int | bool | tuple | str
inductive Bif where
  | len | abs | min | max | tuple | list | all | any | int | divmod
inductive LM where
  | append | pop | insert | extend
inductive Pn where
  | var (i : Nat) | fld (i : Nat) (f : Fn)
mutual
inductive E where
  | var (i : Nat) | cst (d : D) | glb (k : Nat)
  | bin (o : BOp) (a b : E) | neg (a : E)
  | cmp (o : COp) (a b : E) | chn (o o' : COp) (a b c : E) | chn3 (o o' o'' : COp) (a b c d : E)
  | isN (pos : Bool) (a : E) | inn (pos : Bool) (a b : E)
  | and (a b : E) | or (a b : E) | not (a : E)
  | ix (a i : E) | sl (a : E) (lo hi : Eo)
  | tup (es : Es) | lst (es : Es)
  | call (k : Nat) (es : Es) | callv (i : Nat) (es : Es)
  | bif (f : Bif) (es : Es) | isi (a : E) (t : Ty)
  | lc (p : Pat) (it : It) (c : Eo) (e : E) (own : List Nat)
  | fld (i : Nat) (f : Fn) | meth (k i : Nat) (es : Es) | lm (p : Pn) (m : LM) (es : Es)
  | new (k : Nat) (es : Es) | lzip (a b : E) | isB (pos : Bool) (a : E) (b : Bool)
inductive Es where
  | nil | cons (e : E) (es : Es)
inductive Eo where
  | no | yes (e : E)
inductive It where
  | seq (e : E) | r1 (e : E) | r2 (a b : E) | r3 (a b c : E) | zip (a b : E) | enu (a : E)
inductive Pat where
  | nm (i : Nat) | tp (ps : Pats) | sub (p : Pn) (e : E)
inductive Pats where
  | nil | cons (p : Pat) (ps : Pats)
inductive S where
  | asg (p : Pat) (e : E) | par (is : List Nat) (es : Es) | fset (i : Nat) (f : Fn) (e : E) | fadd (i : Nat) (f : Fn) (e : E)
  | exp (e : E) | ret (e : E) | ifs (t : E) (a b : Ss) | fr (p : Pat) (it : It) (b : Ss) | whl (t : E) (b : Ss)
  | raise | pass | brk | cont | thru (b : Ss)
inductive Ss where
  | nil | cons (s : S) (ss : Ss)
end

/-! ## operations -/
def mulOk (i j : Int) : Prop := ∃ a b : Nat, i.natAbs < 2 ^ a ∧ j.natAbs < 2 ^ b ∧ a + b ≤ 134217728
def divOk (j : Int) : Prop := j ≠ 0 ∧ ∃ a : Nat, j.natAbs < 2 ^ a ∧ a ≤ 9000 ∧ 0 < a
abbrev QE := Ev → Env → Prop
def wpAdd (ρ : Env) (a b : Ev) (Q : QE) : Prop := match a, b with
  | .val (.int i), .val (.int j) => Q (.val (.int (i + j))) ρ
  | .val (.tup x), .val (.tup y) => x.length + y.length ≤ 100000 ∧ Q (.val (.tup (x ++ y))) ρ
  | x, y => match lstOf ρ x, lstOf ρ y with
    | some l, some m => l.length + m.length ≤ 100000 ∧ Q (.tmp (l ++ m)) ρ
    | _, _ => False
def wpMul (ρ : Env) (a b : Ev) (Q : QE) : Prop := match a, b with
  | .val (.int i), .val (.int j) => mulOk i j ∧ Q (.val (.int (i * j))) ρ
  | x, .val (.int k) => match lstOf ρ x with
    | some l => (0 ≤ k ∧ k ≤ 100000 ∧ l.length * k.toNat ≤ 100000) ∧ Q (.tmp (List.replicate k.toNat l).flatten) ρ
    | none => False
  | _, _ => False
def wpII (a b : Ev) (Q : Int → Int → Prop) : Prop := match a, b with
  | .val (.int i), .val (.int j) => Q i j
  | _, _ => False
def wpBin (o : BOp) (ρ : Env) (a b : Ev) (Q : QE) : Prop := match o with
  | .add => wpAdd ρ a b Q
  | .mul => wpMul ρ a b Q
  | .sub => wpII a b fun i j => Q (.val (.int (i - j))) ρ
  | .fdiv => wpII a b fun i j => divOk j ∧ Q (.val (.int (i.fdiv j))) ρ
  | .mod => wpII a b fun i j => j ≠ 0 ∧ Q (.val (.int (i.fmod j))) ρ
  | .pow => wpII a b fun i j => (0 ≤ j ∧ j ≤ 1000 ∧ i.natAbs < 2 ^ 64) ∧ Q (.val (.int (i ^ j.toNat))) ρ
theorem wpII.ok {a b : Ev} {Q : Int → Int → Prop} (h : wpII a b Q) : ∃ i j, a = .val (.int i) ∧ b = .val (.int j) ∧ Q i j := by
  unfold wpII at h
  split at h
  · exact ⟨_, _, rfl, rfl, h⟩
  · exact h.elim
def cmpI : COp → Int → Int → Option Bool
  | .lt, i, j => some (decide (i < j))
  | .le, i, j => some (decide (i ≤ j))
  | .gt, i, j => some (decide (j < i))
  | .ge, i, j => some (decide (j ≤ i))
  | _, _, _ => none
def wpCmpI (o : COp) (a b : Ev) (Q : Bool → Prop) : Prop := match a, b with
  | .val (.int i), .val (.int j) => (match cmpI o i j with
    | some c => Q c
    | none => False)
  | _, _ => False
def wpCmp (o : COp) (ρ : Env) (a b : Ev) (Q : Bool → Prop) : Prop := match o with
  | .eq => (match dof ρ a, dof ρ b with
    | some d, some e => okD d ∧ okD e ∧ Q (deq d e)
    | _, _ => False)
  | .ne => (match dof ρ a, dof ρ b with
    | some d, some e => okD d ∧ okD e ∧ Q (!deq d e)
    | _, _ => False)
  | o => wpCmpI o a b Q
def wpIn (pos : Bool) (ρ : Env) (a b : Ev) (Q : Bool → Prop) : Prop := match a, seqOf ρ b with
  | .val (.int x), some ds => ∃ xs : List Int, ds = xs.map D.int ∧ Q (decide (x ∈ xs) == pos)
  | .val (.str x), some ds => ∃ xs : List Str, ds = xs.map D.str ∧ Q (decide (x ∈ xs) == pos)
  | _, _ => False
def wpIx (ρ : Env) (a b : Ev) (Q : QE) : Prop := match seqOf ρ a, b with
  | some ds, .val (.int i) => ∃ d, atI ds i = some d ∧ Q (.val d) ρ
  | _, _ => False
def cut {α : Type} (xs : List α) (lo hi : Option Int) : List α := (xs.drop (HT.sIx xs.length 0 lo)).take (HT.sIx xs.length xs.length hi - HT.sIx xs.length 0 lo)
def wpSl (ρ : Env) (a : Ev) (lo hi : Option Int) (Q : QE) : Prop := match dof ρ a with
  | some (.tup ds) => Q (.val (.tup (cut ds lo hi))) ρ
  | some (.lst ds) => Q (.tmp (cut ds lo hi)) ρ
  | _ => False
def isiD : D → Ty → Bool
  | .int _, .int => true
  | .bl _, .int => true
  | .bl _, .bool => true
  | .tup _, .tuple => true
  | .str _, .str => true
  | _, _ => false
def isVal : D → Bool
  | .lst _ => false
  | .fn _ => false
  | _ => true
def wpIsi (a : Ev) (t : Ty) (Q : Bool → Prop) : Prop := match a with
  | .val d => isVal d = true ∧ Q (isiD d t)
  | _ => False
def wpBif (f : Bif) (ρ : Env) (evs : List Ev) (Q : QE) : Prop := match f, evs with
  | .len, [e] => (match seqOf ρ e with
    | some ds => Q (.val (.int ds.length)) ρ
    | none => False)
  | .abs, [.val (.int i)] => Q (.val (.int i.natAbs)) ρ
  | .min, [.val (.int i), .val (.int j)] => Q (.val (.int (min i j))) ρ
  | .max, [.val (.int i), .val (.int j)] => Q (.val (.int (max i j))) ρ
  | .tuple, [e] => (match seqOf ρ e with
    | some ds => Q (.val (.tup ds)) ρ
    | none => False)
  | .list, [e] => (match seqOf ρ e with
    | some ds => Q (.tmp ds) ρ
    | none => False)
  | .all, [e] => (match lstOf ρ e with
    | some ds => ∃ bs : List Bool, ds = bs.map D.bl ∧ Q (.val (.bl (bs.all id))) ρ
    | none => False)
  | .any, [e] => (match lstOf ρ e with
    | some ds => ∃ bs : List Bool, ds = bs.map D.bl ∧ Q (.val (.bl (bs.any id))) ρ
    | none => False)
  | .int, [.val (.bl b)] => Q (.val (.int (if b then 1 else 0))) ρ
  | .divmod, [.val (.int i), .val (.int j)] => (0 < j ∧ j < 1073741824) ∧ Q (.val (.tup [.int (i / j), .int (i % j)])) ρ
  | _, _ => False
def wpLm (p : Pl) (m : LM) (ρ : Env) (evs : List Ev) (Q : QE) : Prop := match lstAt ρ p with
  | some ds => (match m, evs with
    | .append, [.val d] => ds.length < 100000 ∧ Q (.val .non) (setAt ρ p (.lst (ds ++ [d])))
    | .pop, [.val (.int i)] => (0 ≤ i ∧ i < 100000) ∧ ∃ d, ds[i.toNat]? = some d ∧ Q (.val d) (setAt ρ p (.lst (ds.eraseIdx i.toNat)))
    | .insert, [.val (.int i), .val d] => (0 ≤ i ∧ i ≤ ds.length ∧ ds.length < 100000) ∧ Q (.val .non) (setAt ρ p (.lst (ds.take i.toNat ++ d :: ds.drop i.toNat)))
    | .extend, [.tmp es] => ds.length + es.length < 100000 ∧ Q (.val .non) (setAt ρ p (.lst (ds ++ es)))
    | _, _ => False)
  | none => False
/-- a name of a place, resolved -/
def lstPl (ρ : Env) : Option Ev → Option Pl
  | some (.at_ p) => match lstAt ρ p with
    | some _ => some p
    | none => none
  | _ => none
def plOf (Γ : Gam) (ρ : Env) : Pn → Option Pl
  | .var i => lstPl ρ (evVar ρ i)
  | .fld i f => lstPl ρ (evFld Γ ρ i f)
def wipeR (ρ : Env) : List Nat → Env
  | [] => ρ
  | v :: vs => (wipeR ρ vs).set v .non
/-- the slots vs as they were in ρ -/
def backR (ρ ρ' : Env) : List Nat → Env
  | [] => ρ'
  | v :: vs => (backR ρ ρ' vs).set v ((ρ[v]?).getD .non)
/-- items, and the places that must stand still -/
structure Items where
  ds : List D
  pls : List (Pl × List D)
def still (pls : List (Pl × List D)) (ρ : Env) : Prop := ∀ q ∈ pls, lstAt ρ q.1 = some q.2
def heldAt (ρ : Env) : Ev → List (Pl × List D)
  | .at_ p => match lstAt ρ p with
    | some ds => [(p, ds)]
    | none => []
  | _ => []
def pairs : List D → List D → List D
  | x :: xs, y :: ys => .tup [x, y] :: pairs xs ys
  | _, _ => []
def numbered (k : Nat) : List D → List D
  | [] => []
  | x :: xs => .tup [.int (k : Int), x] :: numbered (k + 1) xs
def intsL (lo : Int) (n : Nat) : List D := (List.range n).map fun (k : Nat) => D.int (lo + (k : Int))
def intsC (lo c : Int) (n : Nat) : List D := (List.range n).map fun (k : Nat) => D.int (lo + (k : Int) * c)
def forGo (pls : List (Pl × List D)) (step : D → Env → (Env → Prop) → Prop) : List D → Env → (Env → Prop) → Prop
  | [], ρ, k => still pls ρ ∧ k ρ
  | d :: ds, ρ, k => still pls ρ ∧ step d ρ fun ρ' => forGo pls step ds ρ' k
/-- a turn of a comprehension gives an item, or none -/
def lcGo (pls : List (Pl × List D)) (step : D → Env → (Option D → Env → Prop) → Prop) : List D → Env → List D → (List D → Env → Prop) → Prop
  | [], ρ, acc, k => still pls ρ ∧ k acc ρ
  | d :: ds, ρ, acc, k => still pls ρ ∧ step d ρ fun o ρ' => match o with
    | none => lcGo pls step ds ρ' acc k
    | some x => lcGo pls step ds ρ' (acc ++ [x]) k
structure Post where
  nx : Env → Prop
  rt : Ev → Env → Prop
  bk : Env → Prop := fun _ => False
  ct : Env → Prop := fun _ => False
@[simp ↓, simp] def setAll : List Nat → List Ev → Env → (Env → Prop) → Prop
  | [], [], ρ, k => k ρ
  | i :: is, .val d :: r, ρ, k => setAll is r (ρ.set i (.fd (.val d))) k
  | i :: is, .tmp ds :: r, ρ, k => setAll is r (ρ.set i (.fd (.lst ds))) k
  | _, _, _, _ => False
/-- the slots that are stored -/
@[simp ↓, simp] def pvars : Pat → List Nat
  | .nm i => [i]
  | .tp ps => pvarss ps
  | .sub _ _ => []
where pvarss : Pats → List Nat
  | .nil => []
  | .cons p ps => pvars p ++ pvarss ps
@[simp ↓, simp] def lenP : Pats → Nat
  | .nil => 0
  | .cons _ ps => lenP ps + 1
mutual
@[simp ↓, simp] def asgS : S → List Nat
  | .asg p _ => pvars p
  | .par is _ => is
  | .ifs _ a b => asgSs a ++ asgSs b
  | .fr p _ b => pvars p ++ asgSs b
  | .whl _ b => asgSs b
  | .thru b => asgSs b
  | _ => []
@[simp ↓, simp] def asgSs : Ss → List Nat
  | .nil => []
  | .cons s r => asgS s ++ asgSs r
end
mutual
/-- the slots whose instance gets a new field -/
@[simp ↓, simp] def grwS : S → List Nat
  | .fadd i _ _ => [i]
  | .ifs _ a b => grwSs a ++ grwSs b
  | .fr _ _ b => grwSs b
  | .whl _ b => grwSs b
  | .thru b => grwSs b
  | _ => []
@[simp ↓, simp] def grwSs : Ss → List Nat
  | .nil => []
  | .cons s r => grwS s ++ grwSs r
end
def plSlot : Pl → Nat
  | .slot i => i
  | .fld i _ => i

section
variable (Γ : Gam)
mutual
def wpE : E → Env → QE → Prop
  | .var i, ρ, Q => (match evVar ρ i with
    | some e => Q e ρ
    | none => False)
  | .cst d, ρ, Q => Q (.val d) ρ
  | .glb k, ρ, Q => (match Γ.cst[k]? with
    | some p => Q (.val p.2) ρ
    | none => False)
  | .bin o a b, ρ, Q => wpE a ρ fun x ρ1 => wpE b ρ1 fun y ρ2 => wpBin o ρ2 x y Q
  | .neg a, ρ, Q => wpE a ρ fun x ρ1 => (match x with
    | .val (.int i) => Q (.val (.int (-i))) ρ1
    | _ => False)
  | .cmp o a b, ρ, Q => wpE a ρ fun x ρ1 => wpE b ρ1 fun y ρ2 => wpCmp o ρ2 x y fun c => Q (.val (.bl c)) ρ2
  | .chn o o' a b c, ρ, Q => wpE a ρ fun x ρ1 => wpE b ρ1 fun y ρ2 => wpCmpI o x y fun k => if k = true then wpE c ρ2 fun z ρ3 => wpCmpI o' y z fun k' => Q (.val (.bl k')) ρ3 else Q (.val (.bl false)) ρ2
  | .chn3 o o' o'' a b c d, ρ, Q => wpE a ρ fun x ρ1 => wpE b ρ1 fun y ρ2 => wpCmpI o x y fun k => if k = true then (wpE c ρ2 fun z ρ3 => wpCmpI o' y z fun k' => if k' = true then wpE d ρ3 fun w ρ4 => wpCmpI o'' z w fun k'' => Q (.val (.bl k'')) ρ4 else Q (.val (.bl false)) ρ3) else Q (.val (.bl false)) ρ2
  | .isN pos a, ρ, Q => wpE a ρ fun x ρ1 => Q (.val (.bl (isNon x == pos))) ρ1
  | .inn pos a b, ρ, Q => wpE a ρ fun x ρ1 => wpE b ρ1 fun y ρ2 => wpIn pos ρ2 x y fun c => Q (.val (.bl c)) ρ2
  | .and a b, ρ, Q => wpE a ρ fun x ρ1 => (match x with
    | .val (.bl c) => if c = true then wpE b ρ1 Q else Q (.val (.bl false)) ρ1
    | _ => False)
  | .or a b, ρ, Q => wpE a ρ fun x ρ1 => (match x with
    | .val (.bl c) => if c = true then Q (.val (.bl true)) ρ1 else wpE b ρ1 Q
    | _ => False)
  | .not a, ρ, Q => wpE a ρ fun x ρ1 => (match x with
    | .val (.bl c) => Q (.val (.bl (!c))) ρ1
    | _ => False)
  | .ix a b, ρ, Q => wpE a ρ fun x ρ1 => wpE b ρ1 fun y ρ2 => wpIx ρ2 x y Q
  | .sl a lo hi, ρ, Q => wpE a ρ fun x ρ1 => wpO lo ρ1 fun l ρ2 => wpO hi ρ2 fun h ρ3 => wpSl ρ3 x l h Q
  | .tup es, ρ, Q => wpEs es ρ fun evs ρ1 => evs.length ≤ 1000 ∧ (match valsOf evs with
    | some ds => Q (.val (.tup ds)) ρ1
    | none => False)
  | .lst es, ρ, Q => wpEs es ρ fun evs ρ1 => evs.length ≤ 1000 ∧ (match valsOf evs with
    | some ds => Q (.tmp ds) ρ1
    | none => False)
  | .call k es, ρ, Q => wpEs es ρ fun evs ρ1 => (match Γ.fn[k]?, slsOf ρ1 evs with
    | some p, some ss => (touch evs).Nodup ∧ p.2 ss fun r ss' => wbOk evs ss' ∧ Q (evOf r) (wb ρ1 evs ss')
    | _, _ => False)
  | .callv i es, ρ, Q => (match ρ[i]? with
    | some (.fd (.val (.fn x))) => ∃ (k : Nat) (S : Spec), Γ.fn[k]? = some (x, S) ∧ wpEs es ρ fun evs ρ1 => (match slsOf ρ1 evs with
      | some ss => (touch evs).Nodup ∧ S ss fun r ss' => wbOk evs ss' ∧ Q (evOf r) (wb ρ1 evs ss')
      | none => False)
    | _ => False)
  | .bif f es, ρ, Q => wpEs es ρ fun evs ρ1 => wpBif f ρ1 evs Q
  | .isi a t, ρ, Q => wpE a ρ fun x ρ1 => wpIsi x t fun c => Q (.val (.bl c)) ρ1
  | .lc p it c e own, ρ, Q => wpIt it ρ fun its ρ1 => its.ds.length ≤ 100000 ∧
      lcGo its.pls (fun d ρ2 k => wpPat p d ρ2 fun ρ3 => wpC c ρ3 fun b ρ4 => if b = true then wpE e ρ4 (fun x ρ5 => match x with
        | .val y => k (some y) (wipeR ρ5 own)
        | _ => False) else k none (wipeR ρ4 own)) its.ds (wipeR ρ1 own) [] fun acc ρ6 => Q (.tmp acc) (backR ρ1 ρ6 own)
  | .fld i f, ρ, Q => (match evFld Γ ρ i f with
    | some e => Q e ρ
    | none => False)
  | .meth k i es, ρ, Q => (match ρ[i]?, Γ.met[k]? with
    | some (.ins C fs), some (C', m, S) => C = C' ∧ wpEs es ρ fun evs ρ1 => (match slsOf ρ1 (.at_ (.slot i) :: evs) with
      | some ss => (touch (.at_ (.slot i) :: evs)).Nodup ∧ S ss fun r ss' => wbOk evs (ss'.drop 1) ∧ Q (evOf r) (wb ρ1 (.at_ (.slot i) :: evs) ss')
      | none => False)
    | _, _ => False)
  | .lm p m es, ρ, Q => (match plOf Γ ρ p with
    | some pl => wpEs es ρ fun evs ρ1 => wpLm pl m ρ1 evs Q
    | none => False)
  | .new k es, ρ, Q => wpEs es ρ fun evs ρ1 => (match Γ.ini[k]?, slsOf ρ1 evs with
    | some p, some ss => (touch evs).Nodup ∧ p.2.2 ss fun fs ss' => wbOk evs ss' ∧ Q (.obj p.1 fs) (wb ρ1 evs ss')
    | _, _ => False)
  | .lzip a b, ρ, Q => wpE a ρ fun x ρ1 => wpE b ρ1 fun y ρ2 => (match lstOf ρ2 x, lstOf ρ2 y with
    | some ds, some es => min ds.length es.length ≤ 100000 ∧ Q (.tmp (pairs ds es)) ρ2
    | _, _ => False)
  | .isB pos a b, ρ, Q => wpE a ρ fun x ρ1 => (match x with
    | .val (.bl c) => Q (.val (.bl ((c == b) == pos))) ρ1
    | _ => False)
def wpEs : Es → Env → (List Ev → Env → Prop) → Prop
  | .nil, ρ, Q => Q [] ρ
  | .cons e es, ρ, Q => wpE e ρ fun x ρ1 => wpEs es ρ1 fun xs ρ2 => Q (x :: xs) ρ2
/-- an optional bound -/
def wpO : Eo → Env → (Option Int → Env → Prop) → Prop
  | .no, ρ, Q => Q none ρ
  | .yes e, ρ, Q => wpE e ρ fun x ρ1 => (match x with
    | .val (.int i) => Q (some i) ρ1
    | _ => False)
/-- an optional condition -/
def wpC : Eo → Env → (Bool → Env → Prop) → Prop
  | .no, ρ, Q => Q true ρ
  | .yes e, ρ, Q => wpE e ρ fun x ρ1 => (match x with
    | .val (.bl b) => Q b ρ1
    | _ => False)
def wpIt : It → Env → (Items → Env → Prop) → Prop
  | .seq e, ρ, Q => wpE e ρ fun x ρ1 => (match seqOf ρ1 x with
    | some ds => Q ⟨ds, heldAt ρ1 x⟩ ρ1
    | none => False)
  | .r1 e, ρ, Q => wpE e ρ fun x ρ1 => (match x with
    | .val (.int i) => (-100000 ≤ i ∧ i ≤ 100000) ∧ Q ⟨intsL 0 i.toNat, []⟩ ρ1
    | _ => False)
  | .r2 a b, ρ, Q => wpE a ρ fun x ρ1 => wpE b ρ1 fun y ρ2 => (match x, y with
    | .val (.int i), .val (.int j) => (-100000 ≤ i ∧ i ≤ 100000 ∧ -100000 ≤ j ∧ j ≤ 100000) ∧ Q ⟨intsL i (j - i).toNat, []⟩ ρ2
    | _, _ => False)
  | .r3 a b c, ρ, Q => wpE a ρ fun x ρ1 => wpE b ρ1 fun y ρ2 => wpE c ρ2 fun z ρ3 => (match x, y, z with
    | .val (.int i), .val (.int j), .val (.int k) => ∃ n, RgC i j k n ∧ Q ⟨intsC i k n, []⟩ ρ3
    | _, _, _ => False)
  | .zip a b, ρ, Q => wpE a ρ fun x ρ1 => wpE b ρ1 fun y ρ2 => (match dof ρ2 x, dof ρ2 y with
    | some (.tup ds), some (.tup es) => Q ⟨pairs ds es, []⟩ ρ2
    | some (.lst ds), some (.lst es) => Q ⟨pairs ds es, heldAt ρ2 x ++ heldAt ρ2 y⟩ ρ2
    | _, _ => False)
  | .enu a, ρ, Q => wpE a ρ fun x ρ1 => (match dof ρ1 x with
    | some (.tup ds) => Q ⟨numbered 0 ds, []⟩ ρ1
    | _ => False)
def wpPat : Pat → D → Env → (Env → Prop) → Prop
  | .nm i, d, ρ, Q => Q (ρ.set i (.fd (.val d)))
  | .tp ps, d, ρ, Q => (match d with
    | .tup ds => ds.length = lenP ps ∧ wpPats ps ds ρ Q
    | _ => False)
  | .sub p e, d, ρ, Q => (match plOf Γ ρ p with
    | some pl => wpE e ρ fun x ρ1 => (match x, lstAt ρ1 pl with
      | .val (.int i), some ds => ∃ k, ixN ds.length i = some k ∧ Q (setAt ρ1 pl (.lst (ds.set k d)))
      | _, _ => False)
    | none => False)
def wpPats : Pats → List D → Env → (Env → Prop) → Prop
  | .nil, ds, ρ, Q => ds = [] ∧ Q ρ
  | .cons p ps, ds, ρ, Q => (match ds with
    | d :: r => wpPat p d ρ fun ρ1 => wpPats ps r ρ1 Q
    | [] => False)
end
/-- a test -/
def wpT : E → Env → (Bool → Env → Prop) → Prop
  | .and a b, ρ, Q => wpT a ρ fun c ρ1 => if c = true then wpT b ρ1 Q else Q false ρ1
  | .or a b, ρ, Q => wpT a ρ fun c ρ1 => if c = true then Q true ρ1 else wpT b ρ1 Q
  | .not a, ρ, Q => wpT a ρ fun c ρ1 => Q (!c) ρ1
  | e, ρ, Q => wpE Γ e ρ fun x ρ1 => (match x with
    | .val (.bl b) => Q b ρ1
    | _ => False)
def wpAsg : Pat → Ev → Env → (Env → Prop) → Prop
  | .nm i, .tmp ds, ρ, Q => Q (ρ.set i (.fd (.lst ds)))
  | .nm i, .obj C fs, ρ, Q => Q (ρ.set i (.ins C fs))
  | p, .val d, ρ, Q => wpPat Γ p d ρ Q
  | _, _, _, _ => False
mutual
def wpS : S → Env → Post → Prop
  | .asg p e, ρ, P => wpE Γ e ρ fun x ρ1 => wpAsg Γ p x ρ1 P.nx
  | .par is es, ρ, P => wpEs Γ es ρ fun xs ρ1 => setAll is xs ρ1 P.nx
  | .fset i f e, ρ, P => wpE Γ e ρ fun x ρ1 => (match ρ1[i]?, x with
    | some (.ins C fs), .val d => (match ixOf f fs with
      | some k => (match fs[k]? with
        | some (_, .val _) => (Γ.cls.contains C && clsFd C f) = true ∧ P.nx (ρ1.set i (.ins C (fs.set k (f, .val d))))
        | _ => False)
      | none => False)
    | _, _ => False)
  | .fadd i f e, ρ, P => wpE Γ e ρ fun x ρ1 => (match ρ1[i]?, x with
    | some (.ins C fs), .val d => (Γ.cls.contains C && clsFd C f) = true ∧ ixOf f fs = none ∧ fs.length < 800 ∧ P.nx (ρ1.set i (.ins C (fs ++ [(f, .val d)])))
    | some (.ins C fs), .tmp ds => (Γ.cls.contains C && clsFd C f) = true ∧ ixOf f fs = none ∧ fs.length < 800 ∧ P.nx (ρ1.set i (.ins C (fs ++ [(f, .lst ds)])))
    | _, _ => False)
  | .exp e, ρ, P => wpE Γ e ρ fun _ ρ1 => P.nx ρ1
  | .ret e, ρ, P => wpE Γ e ρ P.rt
  | .ifs t a b, ρ, P => wpT Γ t ρ fun c ρ1 => if c = true then wpSs a ρ1 P else wpSs b ρ1 P
  | .fr p it b, ρ, P => wpIt Γ it ρ fun its ρ1 => (its.pls.all fun q => !(pvars p ++ asgSs b ++ grwSs b).contains (plSlot q.1)) = true ∧ forGo its.pls (fun d ρ2 k => wpPat Γ p d ρ2 fun ρ3 => wpSs b ρ3 { nx := k, rt := P.rt, bk := P.nx, ct := k }) its.ds ρ1 P.nx
  | .whl t b, ρ, P => ∃ W : Nat → Env → Prop, (∃ m, W m ρ) ∧ ∀ m ρ1, W m ρ1 → wpT Γ t ρ1 fun c ρ2 => if c = true then wpSs b ρ2 { nx := fun ρ3 => ∃ m', m' < m ∧ W m' ρ3, rt := P.rt, bk := P.nx, ct := fun ρ3 => ∃ m', m' < m ∧ W m' ρ3 } else P.nx ρ2
  | .raise, _, _ => False
  | .pass, ρ, P => P.nx ρ
  | .brk, ρ, P => P.bk ρ
  | .cont, ρ, P => P.ct ρ
  | .thru b, ρ, P => wpSs b ρ P
def wpSs : Ss → Env → Post → Prop
  | .nil, ρ, P => P.nx ρ
  | .cons s r, ρ, P => wpS s ρ { P with nx := fun ρ1 => wpSs r ρ1 P }
end
end
end DL

/-! DLc -/
namespace DL
open PySem PySem.Spec PyProof.Rows L2

/-! ## results in the layer -/
def EvR (G : Cxt) (H : Hp) (ft : Fts) : Ev → V → List Addr → Prop
  | .val d, v, fr => fr = [] ∧ Rep G H v d
  | .tmp ds, v, fr => ∃ p vs, v = .ref p ∧ fr = [p] ∧ H p = some (.lst vs) ∧ RepL G H vs ds
  | .at_ (.slot i), v, fr => fr = [] ∧ ∃ f p, ft[i]? = some f ∧ f.self = some p ∧ v = .ref p
  | .at_ (.fld i k), v, fr => fr = [] ∧ ∃ f p, ft[i]? = some f ∧ f.fl[k]? = some (some p) ∧ v = .ref p
  | .obj C fs, v, fr => ∃ f, SlR G H (some v) f (.ins C fs) ∧ fr = f.ads
inductive EvsR (G : Cxt) (H : Hp) (ft : Fts) : List Ev → List V → List Addr → Prop
  | nil : EvsR G H ft [] [] []
  | cons {e : Ev} {es : List Ev} {v : V} {vs : List V} {fr frs : List Addr} : EvR G H ft e v fr → EvsR G H ft es vs frs → EvsR G H ft (e :: es) (v :: vs) (fr ++ frs)
section
variable {G : Cxt} {H H' : Hp} {F : List Addr} {ft : Fts}
theorem EvR.mono (s : Step F H H') : ∀ {e : Ev} {v : V} {fr : List Addr}, EvR G H ft e v fr → (∀ a ∈ fr, a ∉ F) → EvR G H' ft e v fr
  | .val d, v, fr, ⟨e, r⟩, _ => ⟨e, r.mono s⟩
  | .tmp ds, v, fr, ⟨p, vs, e1, e2, h, r⟩, n => ⟨p, vs, e1, e2, s.keep _ _ h (n p (by rw [e2]; simp)), r.mono s⟩
  | .at_ (.slot i), v, fr, h, _ => h
  | .at_ (.fld i k), v, fr, h, _ => h
  | .obj C fs, v, fr, ⟨f, r, e⟩, n => ⟨f, r.mono s (by rw [← e]; exact n), e⟩
theorem EvsR.mono (s : Step F H H') : ∀ {es : List Ev} {vs : List V} {fr : List Addr}, EvsR G H ft es vs fr → (∀ a ∈ fr, a ∉ F) → EvsR G H' ft es vs fr
  | _, _, _, .nil, _ => .nil
  | _, _, _, .cons r t, n => .cons (r.mono s fun a h => n a (List.mem_append_left _ h)) (EvsR.mono s t fun a h => n a (List.mem_append_right _ h))
/-- what a result owns is known -/
theorem EvR.known : ∀ {e : Ev} {v : V} {fr : List Addr}, EvR G H ft e v fr → ∀ a ∈ fr, ∃ o, H a = some o
  | .val d, v, fr, ⟨e, _⟩, a, h => by rw [e] at h; cases h
  | .tmp ds, v, fr, ⟨p, vs, _, e2, h, _⟩, a, m => by
    rw [e2] at m
    have : a = p := by simpa using m
    rw [this]; exact ⟨_, h⟩
  | .at_ (.slot i), v, fr, ⟨e, _⟩, a, h => by rw [e] at h; cases h
  | .at_ (.fld i k), v, fr, ⟨e, _⟩, a, h => by rw [e] at h; cases h
  | .obj C fs, v, fr, ⟨f, r, e⟩, a, m => by
    rw [e] at m
    rcases r.known m with ⟨vs, q⟩ | ⟨C, dx, gs, q⟩ <;> exact ⟨_, q⟩
theorem EvsR.known : ∀ {es : List Ev} {vs : List V} {fr : List Addr}, EvsR G H ft es vs fr → ∀ a ∈ fr, ∃ o, H a = some o
  | _, _, _, .nil, a, h => by cases h
  | _, _, _, .cons r t, a, h => (List.mem_append.mp h).elim (r.known a) (EvsR.known t a)
end

/-! ## readings -/
/-- the end of an expression begun at H0 -/
def Fin (G : Cxt) (σ : L2.St) (ft : Fts) (H0 : Hp) (R : QE) (Q : VK) : Prop :=
  ∀ ev ρ' v H' fr, R ev ρ' → EnvR G H' σ ρ' ft → EvR G H' ft ev v fr → fr.Nodup → (∀ a ∈ fr, H0 a = none) → Step (adsOf ft) H0 H' → Q v H'
/-- how one stands -/
structure At (G : Cxt) (σ : L2.St) (H : Hp) (ρ : Env) (ft : Fts) : Prop where
  env : EnvR G H σ ρ ft
  nd : (adsOf ft).Nodup
def tE (Γ : Gam) (G : Cxt) (c : E) : TE := fun σ H Q => ∃ ρ ft R, At G σ H ρ ft ∧ wpE Γ c ρ R ∧ Fin G σ ft H R Q
def tEs (Γ : Gam) (G : Cxt) (cs : Es) : TA := fun σ H Q => ∃ ρ ft R, At G σ H ρ ft ∧ wpEs Γ cs ρ R ∧
  ∀ evs ρ' vs H' fr, R evs ρ' → EnvR G H' σ ρ' ft → EvsR G H' ft evs vs fr → fr.Nodup → (∀ a ∈ fr, H a = none) → Step (adsOf ft) H H' → Q vs H'
def tT (Γ : Gam) (G : Cxt) (c : E) : TT := fun σ H Q => ∃ ρ ft, ∃ R : Bool → Env → Prop, At G σ H ρ ft ∧ wpT Γ c ρ R ∧
  ∀ b ρ' H', R b ρ' → EnvR G H' σ ρ' ft → Step (adsOf ft) H H' → Q b H'
def tO (Γ : Gam) (G : Cxt) (c : Eo) : TO := fun σ H Q => ∃ ρ ft, ∃ R : Option Int → Env → Prop, At G σ H ρ ft ∧ wpO Γ c ρ R ∧
  ∀ o ρ' H', R o ρ' → EnvR G H' σ ρ' ft → Step (adsOf ft) H H' → Q o H'
def tCn (Γ : Gam) (G : Cxt) (c : Eo) : TT := fun σ H Q => ∃ ρ ft, ∃ R : Bool → Env → Prop, At G σ H ρ ft ∧ wpC Γ c ρ R ∧
  ∀ b ρ' H', R b ρ' → EnvR G H' σ ρ' ft → Step (adsOf ft) H H' → Q b H'

theorem _root_.L2.PE.imp {X : Cx} {e : Expr} {t t' : TE} (h : PE X e t) (i : ∀ σ H Q, t' σ H Q → t σ H Q) : PE X e t' := ⟨fun pins s σ H Q I w => h.run pins s σ H Q I (i _ _ _ w)⟩
theorem _root_.L2.PT.imp {X : Cx} {e : Expr} {t t' : TT} (h : PT X e t) (i : ∀ σ H Q, t' σ H Q → t σ H Q) : PT X e t' := ⟨fun pins s σ H Q I w => h.run pins s σ H Q I (i _ _ _ w)⟩
theorem _root_.L2.PW.imp {X : Cx} {e : Expr} {t t' : TT} (h : PW X e t) (i : ∀ σ H Q, t' σ H Q → t σ H Q) : PW X e t' := ⟨fun wh pins s σ H Q I w => h.run wh pins s σ H Q I (i _ _ _ w)⟩
theorem _root_.L2.PA.imp {X : Cx} {e : List Expr} {t t' : TA} (h : PA X e t) (i : ∀ σ H Q, t' σ H Q → t σ H Q) : PA X e t' := ⟨fun pos pins s σ H Q I w => h.run pos pins s σ H Q I (i _ _ _ w)⟩
theorem _root_.L2.PO.imp {X : Cx} {e : Option Expr} {t t' : TO} (h : PO X e t) (i : ∀ σ H Q, t' σ H Q → t σ H Q) : PO X e t' := ⟨fun pins s σ H Q I w => h.run pins s σ H Q I (i _ _ _ w)⟩
theorem _root_.L2.PTs.imp {X : Cx} {e : List Expr} {t t' : TT} (h : PTs X e t) (i : ∀ σ H Q, t' σ H Q → t σ H Q) : PTs X e t' := ⟨fun pins s σ H Q I w => h.run pins s σ H Q I (i _ _ _ w)⟩
theorem _root_.L2.PS.imp {X : Cx} {e : Stmt} {t t' : TS} (h : PS X e t) (i : ∀ D σ H, t' D σ H → t D σ H) : PS X e t' := ⟨fun pins s σ H D I w => h.run pins s σ H D I (i _ _ _ w)⟩
theorem _root_.L2.PSs.imp {X : Cx} {e : List Stmt} {t t' : TS} (h : PSs X e t) (i : ∀ D σ H, t' D σ H → t D σ H) : PSs X e t' := ⟨fun pins s σ H D I w => h.run pins s σ H D I (i _ _ _ w)⟩
theorem _root_.L2.PG.imp {X : Cx} {e : Expr} {t t' : TG} (h : PG X e t) (i : ∀ v σ H Q, t' v σ H Q → t v σ H Q) : PG X e t' := ⟨fun pins s σ H v u Q I r w => h.run pins s σ H v u Q I r (i _ _ _ _ w)⟩
theorem _root_.L2.PGs.imp {X : Cx} {e : List Expr} {t t' : TGs} (h : PGs X e t) (i : ∀ v σ H Q, t' v σ H Q → t v σ H Q) : PGs X e t' := ⟨fun pins s σ H v u Q I r w => h.run pins s σ H v u Q I r (i _ _ _ _ w)⟩
theorem _root_.L2.PI.imp {X : Cx} {g e : Expr} {t t' : TI} (h : PI X g e t) (i : ∀ σ H Q, t' σ H Q → t σ H Q) : PI X g e t' := ⟨fun pins s σ H Q I w => h.run pins s σ H Q I (i _ _ _ w)⟩

section
variable {Γ : Gam} {G : Cxt} {σ : L2.St} {H : Hp} {ρ : Env} {ft : Fts} {R : QE} {Q : VK}
theorem At.next {H' : Hp} {ρ' : Env} (a : At G σ H ρ ft) (e : EnvR G H' σ ρ' ft) : At G σ H' ρ' ft := ⟨e, a.nd⟩
/-- fresh things are apart from what is owned -/
theorem apart_of {H0 : Hp} {ρ0 : Env} (a : At G σ H0 ρ0 ft) {fr : List Addr} (h : ∀ x ∈ fr, H0 x = none) : ∀ x ∈ fr, x ∉ adsOf ft := fun x m => a.env.free (h x m)
theorem Fin.val {H0 H' : Hp} (f : Fin G σ ft H0 R Q) {d : D} {ρ' : Env} {v : V} (r : R (.val d) ρ') (e : EnvR G H' σ ρ' ft) (h : Rep G H' v d) (s : Step (adsOf ft) H0 H') : Q v H' :=
  f (.val d) ρ' v H' [] r e ⟨rfl, h⟩ List.nodup_nil (fun a m => by cases m) s
/-- a new tuple -/
theorem Fin.newT {H0 H' : Hp} (f : Fin G σ ft H0 R Q) {ds : List D} {vs : List V} {ρ' : Env} {p : Addr} (r : R (.val (.tup ds)) ρ') (e : EnvR G H' σ ρ' ft) (h : RepL G H' vs ds) (s : Step (adsOf ft) H0 H') (hp : H' p = none) : Q (.ref p) (upd H' p (.tup vs)) := by
  have s2 : Step (adsOf ft) H' (upd H' p (.tup vs)) := Step.new hp
  have s3 : Step [] H' (upd H' p (.tup vs)) := Step.new hp
  exact f.val r (e.mono s3 fun _ _ z => by cases z) (.tup (.inl upd_same) (h.mono s3)) (s.trans s2)
/-- a new list -/
theorem Fin.newL {H0 H' : Hp} (f : Fin G σ ft H0 R Q) {ds : List D} {vs : List V} {ρ' : Env} {p : Addr} (r : R (.tmp ds) ρ') (e : EnvR G H' σ ρ' ft) (h : RepL G H' vs ds) (s : Step (adsOf ft) H0 H') (hp : H' p = none) : Q (.ref p) (upd H' p (.lst vs)) := by
  have s2 : Step (adsOf ft) H' (upd H' p (.lst vs)) := Step.new hp
  have s3 : Step [] H' (upd H' p (.lst vs)) := Step.new hp
  refine f (.tmp ds) ρ' _ _ [p] r (e.mono s3 fun _ _ z => by cases z) ⟨p, vs, rfl, rfl, upd_same, h.mono s3⟩ (by simp) (fun a m => ?_) (s.trans s2)
  have : a = p := by simpa using m
  rw [this]; exact s.back p hp
/-- two operands -/
theorem two {c ca cb : E} {K : Ev → Ev → Env → QE → Prop} {r : R2} (hw : ∀ ρ R, wpE Γ c ρ R → wpE Γ ca ρ fun x ρ1 => wpE Γ cb ρ1 fun y ρ2 => K x y ρ2 R)
    (hr : ∀ (H0 H : Hp) (σ : L2.St) (ρ : Env) (ft : Fts) (R : QE) (Q : VK) (x y : Ev) (v u : V) (f1 f2 : List Addr), At G σ H ρ ft → Step (adsOf ft) H0 H → K x y ρ R → EvR G H ft x v f1 → EvR G H ft y u f2 → Fin G σ ft H0 R Q → r v u H Q) :
    ∀ σ H Q, tE Γ G c σ H Q → tOp r (tE Γ G ca) (tE Γ G cb) σ H Q := by
  rintro σ H Q ⟨ρ, ft, R, a, w, k⟩
  refine ⟨ρ, ft, _, a, hw ρ R w, fun x ρ1 v H1 f1 w1 e1 r1 n1 fr1 s1 => ?_⟩
  refine ⟨ρ1, ft, _, a.next e1, w1, fun y ρ2 u H2 f2 w2 e2 r2 n2 fr2 s2 => ?_⟩
  exact hr H H2 σ ρ2 ft R Q x y v u f1 f2 (a.next e2) (s1.trans s2) w2 (r1.mono s2 (apart_of a fr1)) r2 k
theorem one {c ca : E} {K : Ev → Env → QE → Prop} {r : V → Hp → VK → Prop} (hw : ∀ ρ R, wpE Γ c ρ R → wpE Γ ca ρ fun x ρ1 => K x ρ1 R)
    (hr : ∀ (H0 H : Hp) (σ : L2.St) (ρ : Env) (ft : Fts) (R : QE) (Q : VK) (x : Ev) (v : V) (f1 : List Addr), At G σ H ρ ft → Step (adsOf ft) H0 H → K x ρ R → EvR G H ft x v f1 → (∀ a ∈ f1, H0 a = none) → Fin G σ ft H0 R Q → r v H Q) :
    ∀ σ H Q, tE Γ G c σ H Q → tUn r (tE Γ G ca) σ H Q := by
  rintro σ H Q ⟨ρ, ft, R, a, w, k⟩
  refine ⟨ρ, ft, _, a, hw ρ R w, fun x ρ1 v H1 f1 w1 e1 r1 n1 fr1 s1 => ?_⟩
  exact hr H H1 σ ρ1 ft R Q x v f1 (a.next e1) s1 w1 r1 fr1 k
/-- arguments -/
theorem args {c : E} {cs : Es} {K : List Ev → Env → QE → Prop} {r : List V → Hp → VK → Prop} (hw : ∀ ρ R, wpE Γ c ρ R → wpEs Γ cs ρ fun xs ρ1 => K xs ρ1 R)
    (hr : ∀ (H0 H : Hp) (σ : L2.St) (ρ : Env) (ft : Fts) (R : QE) (Q : VK) (xs : List Ev) (vs : List V) (fr : List Addr), At G σ H ρ ft → Step (adsOf ft) H0 H → K xs ρ R → EvsR G H ft xs vs fr → fr.Nodup → (∀ a ∈ fr, H0 a = none) → Fin G σ ft H0 R Q → r vs H Q) :
    ∀ σ H Q, tE Γ G c σ H Q → (fun (σ : L2.St) (H : Hp) (Q : VK) => tEs Γ G cs σ H fun vs H1 => r vs H1 Q) σ H Q := by
  rintro σ H Q ⟨ρ, ft, R, a, w, k⟩
  refine ⟨ρ, ft, _, a, hw ρ R w, fun xs ρ1 vs H1 f1 w1 e1 r1 n1 fr1 s1 => ?_⟩
  exact hr H H1 σ ρ1 ft R Q xs vs f1 (a.next e1) s1 w1 r1 n1 fr1 k
end

/-! ## what stands where -/
section
variable {G : Cxt} {σ : L2.St} {H : Hp} {ρ : Env} {ft : Fts}
theorem FdsR.at_ : ∀ {gs : List (Str × V)} {fs : List (Fn × Fd)} {fl : List (Option Addr)} {k : Nat} {f : Fn} {x : Fd}, FdsR G H gs fs fl → fs[k]? = some (f, x) → ∃ v a, gs[k]? = some (f.str, v) ∧ fl[k]? = some a ∧ FdR G H v x a
  | (n, v) :: gs, (m, y) :: fs, a :: fl, 0, f, x, ⟨e, r, _⟩, h => by
    simp at h
    obtain ⟨rfl, rfl⟩ := h
    exact ⟨v, a, by simp [e], rfl, r⟩
  | (n, v) :: gs, (m, y) :: fs, a :: fl, k + 1, f, x, ⟨_, _, t⟩, h => by
    obtain ⟨v', a', h1, h2, h3⟩ := FdsR.at_ (k := k) t (by simpa using h)
    exact ⟨v', a', by simpa using h1, by simpa using h2, h3⟩
  | [], [], [], _, _, _, _, h => by simp at h
  | [], [], _ :: _, _, _, _, h, _ => h.elim
  | [], _ :: _, _, _, _, _, h, _ => h.elim
  | _ :: _, [], _, _, _, _, h, _ => h.elim
  | (_, _) :: _, (_, _) :: _, [], _, _, _, h, _ => h.elim
theorem FdsR.look : ∀ {gs : List (Str × V)} {fs : List (Fn × Fd)} {fl : List (Option Addr)} {k : Nat} {f : Fn}, FdsR G H gs fs fl → ixOf f fs = some k → ∃ x v a, fs[k]? = some (f, x) ∧ gs.lookup f.str = some v ∧ fl[k]? = some a ∧ FdR G H v x a
  | (n, v) :: gs, (m, y) :: fs, a :: fl, k, f, ⟨e, r, t⟩, h => by
    unfold ixOf at h
    by_cases hf : f = m
    · rw [if_pos hf] at h
      cases h
      subst hf
      subst e
      exact ⟨y, v, a, rfl, by simp [List.lookup], rfl, r⟩
    · rw [if_neg hf] at h
      cases q : ixOf f fs with
      | none => rw [q] at h; cases h
      | some j =>
        rw [q] at h
        have ek : k = j + 1 := (Option.some.inj h).symm
        subst ek
        obtain ⟨x, v', a', h1, h2, h3, h4⟩ := FdsR.look t q
        refine ⟨x, v', a', by simpa using h1, ?_, by simpa using h3, h4⟩
        have hne : (f.str == n) = false := by
          rw [e]
          exact beq_eq_false_iff_ne.mpr fun z => hf (Fn.inj z)
        simp only [List.lookup, hne]
        exact h2
  | [], [], [], _, _, _, h => by unfold ixOf at h; cases h
  | [], [], _ :: _, _, _, h, _ => h.elim
  | [], _ :: _, _, _, _, h, _ => h.elim
  | _ :: _, [], _, _, _, h, _ => h.elim
  | (_, _) :: _, (_, _) :: _, [], _, _, h, _ => h.elim
/-- the list at a place -/
theorem At.lst (a : At G σ H ρ ft) {p : Pl} {ds : List D} (h : lstAt ρ p = some ds) {v : V} {fr : List Addr} (r : EvR G H ft (.at_ p) v fr) : ∃ q vs, v = .ref q ∧ q ∈ adsOf ft ∧ H q = some (.lst vs) ∧ RepL G H vs ds := by
  cases p with
  | slot i =>
    obtain ⟨_, f, q, hf, hs, hv⟩ := r
    simp only [lstAt] at h
    cases e : ρ[i]? with
    | none => rw [e] at h; cases h
    | some s =>
      rw [e] at h
      obtain ⟨o, f', h1, h2, r2⟩ := a.env.get e
      rw [hf] at h2; cases h2
      cases s with
      | non => cases h
      | ins C fs => cases h
      | fd x =>
        cases x with
        | val d => cases h
        | lst es =>
          have e2 : es = ds := Option.some.inj h
          subst e2
          obtain ⟨w, e3, ⟨q', vs, e4, e5, hq, hr⟩, _⟩ := r2
          rw [hs] at e5; cases e5
          exact ⟨q, vs, hv, mem_ads hf (Ft.self_mem hs), hq, hr⟩
  | fld i k =>
    obtain ⟨_, f, q, hf, hs, hv⟩ := r
    simp only [lstAt] at h
    cases e : ρ[i]? with
    | none => rw [e] at h; cases h
    | some s =>
      rw [e] at h
      obtain ⟨o, f', h1, h2, r2⟩ := a.env.get e
      rw [hf] at h2; cases h2
      cases s with
      | non => cases h
      | fd x => cases h
      | ins C fs =>
        cases e2 : fs[k]? with
        | none => simp only [e2] at h; cases h
        | some y =>
          obtain ⟨m, x⟩ := y
          simp only [e2] at h
          cases x with
          | val d => cases h
          | lst es =>
            have e3 : es = ds := Option.some.inj h
            subst e3
            obtain ⟨p, dx, gs, _, _, _, hr, _⟩ := r2
            obtain ⟨w, b, _, hb, q', vs, _, e5, hq, hr2⟩ := hr.at_ e2
            rw [hs] at hb; cases hb
            cases e5
            exact ⟨q, vs, hv, mem_ads hf (Ft.fl_mem (List.mem_of_getElem? hs)), hq, hr2⟩
theorem At.lstE (a : At G σ H ρ ft) {e : Ev} {ds : List D} (h : lstOf ρ e = some ds) {v : V} {fr : List Addr} (r : EvR G H ft e v fr) : ∃ q vs, v = .ref q ∧ H q = some (.lst vs) ∧ RepL G H vs ds := by
  cases e with
  | val d => cases h
  | obj C fs => cases h
  | tmp es =>
    have e3 : es = ds := Option.some.inj h
    subst e3
    obtain ⟨p, vs, e1, _, h2, h3⟩ := r
    exact ⟨p, vs, e1, h2, h3⟩
  | at_ p =>
    obtain ⟨q, vs, e1, _, h2, h3⟩ := a.lst h r
    exact ⟨q, vs, e1, h2, h3⟩
/-- a list or a tuple that is read -/
theorem At.seqE (a : At G σ H ρ ft) {e : Ev} {ds : List D} (h : seqOf ρ e = some ds) {v : V} {fr : List Addr} (r : EvR G H ft e v fr) : ∃ q vs, v = .ref q ∧ (SqL G.K H q vs ∨ SqT G.K H q vs) ∧ RepL G H vs ds := by
  unfold seqOf at h
  cases e with
  | val d =>
    obtain ⟨_, r⟩ := r
    cases d with
    | tup es =>
      have e3 : es = ds := Option.some.inj h
      subst e3
      cases r with
      | tup e r => exact ⟨_, _, rfl, .inr (e.elim (fun z => .inl (.inl z)) .inr), r⟩
    | lst es =>
      have e3 : es = ds := Option.some.inj h
      subst e3
      cases r with
      | lst e r => exact ⟨_, _, rfl, .inl (e.elim (fun ⟨o, z⟩ => .inl (.inr ⟨o, z⟩)) .inr), r⟩
    | _ => cases h
  | tmp es =>
    have e3 : es = ds := Option.some.inj h
    subst e3
    obtain ⟨p, vs, e1, _, h2, h3⟩ := r
    exact ⟨p, vs, e1, .inl (SqL.of h2), h3⟩
  | at_ p =>
    simp only [dof] at h
    cases q : lstAt ρ p with
    | none => rw [q] at h; cases h
    | some es =>
      rw [q] at h
      have e3 : es = ds := Option.some.inj h
      subst e3
      obtain ⟨x, vs, e1, _, h2, h3⟩ := a.lst q r
      exact ⟨x, vs, e1, .inl (SqL.of h2), h3⟩
  | obj C fs => cases h
/-- data -/
theorem At.dofE (a : At G σ H ρ ft) {e : Ev} {d : D} (h : dof ρ e = some d) {v : V} {fr : List Addr} (r : EvR G H ft e v fr) (p : plain d = true) : Dp G.K H v (toP d) := by
  cases e with
  | val d' =>
    cases h
    exact r.2.dp p
  | tmp es =>
    cases h
    obtain ⟨q, vs, e1, _, h2, h3⟩ := r
    rw [e1]
    exact .lst (SqL.of h2) (h3.dp (by simpa [plain] using p))
  | at_ q =>
    simp only [dof] at h
    cases z : lstAt ρ q with
    | none => rw [z] at h; cases h
    | some es =>
      rw [z] at h
      cases h
      obtain ⟨x, vs, e1, _, h2, h3⟩ := a.lst z r
      rw [e1]
      exact .lst (SqL.of h2) (h3.dp (by simpa [plain] using p))
  | obj C fs => cases h
end
end DL

/-! DLd -/
namespace DL
open PySem PySem.Spec PyProof.Rows L2

/-! ## promises of defs -/
def spOf (G : Cxt) (S : Spec) : Sp := fun vs H Q _ => ∃ ss ft R, At G (vs.map some) H ss ft ∧ S ss R ∧
  ∀ r ss' v H' fr, R r ss' → EnvR G H' (vs.map some) ss' ft → FdR G H' v r fr → (∀ p, fr = some p → H p = none) → Step (adsOf ft) H H' → Q v H'
def spI (G : Cxt) (C : Cn) (S : ISpec) : Sp := fun vs H Q _ => ∃ p dx ws ss ft R, vs = .ref p :: ws ∧ H p = some (.ins (G.cl C) dx []) ∧ At G (ws.map some) H ss ft ∧ p ∉ adsOf ft ∧ S ss R ∧
  ∀ fs ss' H' f, R fs ss' → EnvR G H' (ws.map some) ss' ft → SlR G H' (some (.ref p)) f (.ins C fs) → f.self = some p → (∀ a ∈ f.ads, a = p ∨ H a = none) → f.ads.Nodup → Step (p :: adsOf ft) H H' → Q .non H'
section
variable (P : Program) (w : World) (base : Heap) (G : Cxt) (lv : Nat)
structure Has (x : Str) (S : Spec) : Prop where
  ex : ∃ f fd ps, FnOk P w G.K G.mg base CX0 lv f fd ps (spOf G S) ∧ G.mg x = some (.ref f) ∧ PySem.W.keepIn G.K (.ref f) = true ∧ Binds G.K fd ps []
structure HasI (C : Cn) (x : Str) (S : ISpec) : Prop where
  ex : ∃ f fd ps, Mk G.K (G.cl C) f ∧ FnOk P w G.K G.mg base CX0 lv f fd ps (spI G C S) ∧ G.mg x = some (.ref (G.cl C)) ∧ Binds G.K fd ps []
structure HasM (C : Cn) (m : Str) (S : Spec) : Prop where
  ex : ∃ f fd ps, Cls G.K (G.cl C) ∧ Meth G.K (G.cl C) m f ∧ FnOk P w G.K G.mg base CX0 lv f fd ps (spOf G S) ∧ Binds G.K fd ps []
  nf : ∀ f : Fn, f.str ≠ m
end
def bnames : List Str := ["isinstance", "len", "abs", "min", "max", "tuple", "list", "all", "any", "int", "divmod", "range", "zip", "enumerate", "bool", "str", "sorted", "set"]
structure Wd (Γ : Gam) (G : Cxt) (lv : Nat) (X : Cx) : Prop where
  K : X.K = G.K
  mg : X.mg = G.mg
  calm : X.calm = true
  nd : X.N.Nodup
  room : Room (lv + 1) X.A
  fn : ∀ p ∈ Γ.fn, Has X.prog X.w X.base G lv p.1 p.2
  cst : ∀ p ∈ Γ.cst, ∃ v u, G.mg p.1 = some u ∧ RelV v u ∧ ∀ H, Rep G H v p.2
  ini : ∀ p ∈ Γ.ini, HasI X.prog X.w X.base G lv p.1 p.2.1 p.2.2
  met : ∀ p ∈ Γ.met, HasM X.prog X.w X.base G lv p.1 p.2.1 p.2.2
  cls : ∀ C ∈ Γ.cls, Cls G.K (G.cl C) ∧ ∀ f, clsFd C f = true → NoAttr G.K (G.cl C) f.str
  blt : ∀ x ∈ bnames, G.mg x = none

section
variable {Γ : Gam} {G : Cxt} {lv : Nat} {X : Cx} {pos : Pos}
theorem Wd.blt' (W : Wd Γ G lv X) {x : Str} (h : x ∈ bnames) : X.mg x = none := by rw [W.mg]; exact W.blt x h
theorem Wd.hu (W : Wd Γ G lv X) : X.A.units + 64 < cLine := W.room.units

/-! ## leaves -/
theorem s_var {i : Nat} {x : Str} (hN : X.N[i]? = some x) (hv : Vis X.env.scope x) (hd : (x == ("__debug__" : Str)) = false) (hcd : (x == ("__classdict__" : Str)) = false) : PE X (.Name x pos) (tE Γ G (.var i)) := by
  refine (pe_var hN hv hd hcd).imp ?_
  rintro σ H Q ⟨ρ, ft, R, a, w, k⟩
  simp only [wpE, evVar] at w
  cases e : ρ[i]? with
  | none => simp only [e] at w
  | some s =>
    obtain ⟨o, f, h1, h2, r⟩ := a.env.get e
    simp only [e] at w
    cases s with
    | non => exact w.elim
    | fd y =>
      cases y with
      | val d =>
        obtain ⟨v, e1, ⟨e2, r2⟩, _⟩ := r
        subst e1
        exact ⟨v, h1, k.val w a.env r2 (Step.refl _ _)⟩
      | lst ds =>
        obtain ⟨v, e1, ⟨p, vs, e2, e3, h3, r3⟩, _⟩ := r
        subst e1 e2
        exact ⟨.ref p, h1, k _ ρ _ H [] w a.env ⟨rfl, f, p, h2, e3, rfl⟩ List.nodup_nil (fun a m => by cases m) (Step.refl _ _)⟩
    | ins C fs =>
      obtain ⟨p, dx, gs, e1, e2, h3, _⟩ := r
      subst e1
      exact ⟨.ref p, h1, k _ ρ _ H [] w a.env ⟨rfl, f, p, h2, e2, rfl⟩ List.nodup_nil (fun a m => by cases m) (Step.refl _ _)⟩
theorem s_cst {v : V} {e : Expr} {d : D} (h : PE X e (tC v)) (r : ∀ H, Rep G H v d) : PE X e (tE Γ G (.cst d)) := by
  refine h.imp ?_
  rintro σ H Q ⟨ρ, ft, R, a, w, k⟩
  simp only [wpE] at w
  exact k.val w a.env (r H) (Step.refl _ _)
theorem s_glb {i : Nat} {x : Str} {d : D} (W : Wd Γ G lv X) (hk : Γ.cst[i]? = some (x, d)) (hg : Gl X x) (hd : (x == ("__debug__" : Str)) = false) : PE X (.Name x pos) (tE Γ G (.glb i)) := by
  obtain ⟨v, u, h1, h2, h3⟩ := W.cst _ (List.mem_of_getElem? hk)
  refine (pe_glob hg (by rw [W.mg]; exact h1) h2 hd).imp ?_
  rintro σ H Q ⟨ρ, ft, R, a, w, k⟩
  simp only [wpE, hk] at w
  exact k.val w a.env (h3 H) (Step.refl _ _)

/-! ## operators -/
theorem op_fdivX : OpR X (binaryOp .FloorDiv) (rI (fun _ j => j ≠ 0 ∧ j.natAbs.log2 < 9000) fun i j => .int (i.fdiv j)) := opI fun _ _ _ _ _ _ _ hc q => floordiv_int hc.1 q (.inl (PyProof.noPylong_of_log2 hc.2))
theorem divOk.ok {j : Int} (h : divOk j) : j ≠ 0 ∧ j.natAbs.log2 < 9000 := by
  obtain ⟨h0, a, h1, h2, h3⟩ := h
  exact ⟨h0, Nat.lt_of_lt_of_le (PySem.Flt.log2_lt_of h3 h1) h2⟩
theorem mulOk.ok {i j : Int} (h : mulOk i j) : CMulX i j := by
  obtain ⟨a, b, h1, h2, h3⟩ := h
  exact mulx_ok h1 h2 h3
def bop : BOp → Operator
  | .add => .Add | .sub => .Sub | .mul => .Mult | .fdiv => .FloorDiv | .mod => .Mod | .pow => .Pow
theorem rep_int {H : Hp} {v : V} {i : Int} (h : Rep G H v (.int i)) : v = .int i := by cases h; rfl
theorem rep_bl {H : Hp} {v : V} {i : Bool} (h : Rep G H v (.bl i)) : v = .bl i := by cases h; rfl
theorem sz5 {n : Nat} (h : n ≤ 100000) : n ≤ sizeLine := Nat.le_trans h (by rw [sizeLine_eq]; decide)
theorem sz5' {n : Nat} (h : n < 100000) : n < sizeLine := Nat.lt_of_lt_of_le h (by rw [sizeLine_eq]; decide)
theorem flat_rep {α : Type} (xs : List α) (k : Nat) : (List.replicate k xs).flatten.length = k * xs.length := by
  induction k with
  | zero => simp
  | succ k ih => rw [List.replicate_succ, List.flatten_cons, List.length_append, ih, Nat.add_mul]; omega

theorem s_bin {a b : Expr} {ca cb : E} (W : Wd Γ G lv X) (o : BOp) (ha : PE X a (tE Γ G ca)) (hb : PE X b (tE Γ G cb)) : PE X (.BinOp a (bop o) b pos) (tE Γ G (.bin o ca cb)) := by
  have key : ∀ r : R2, OpR X (binaryOp (bop o)) r → (∀ (H0 H : Hp) (σ : L2.St) (ρ : Env) (ft : Fts) (R : QE) (Q : VK) (x y : Ev) (v u : V) (f1 f2 : List Addr), At G σ H ρ ft → Step (adsOf ft) H0 H → wpBin o ρ x y R → EvR G H ft x v f1 → EvR G H ft y u f2 → Fin G σ ft H0 R Q → r v u H Q) → PE X (.BinOp a (bop o) b pos) (tE Γ G (.bin o ca cb)) := fun r ho hr =>
    (pe_op ho ha hb).imp (two (fun ρ R w => by simpa only [wpE] using w) hr)
  have I : ∀ (g : Int → Int → Int) (C : Int → Int → Prop), OpR X (binaryOp (bop o)) (rI C fun i j => .int (g i j)) → (∀ (ρ : Env) (R : QE) (x y : Ev), wpBin o ρ x y R → ∃ i j, x = .val (.int i) ∧ y = .val (.int j) ∧ C i j ∧ R (.val (.int (g i j))) ρ) → PE X (.BinOp a (bop o) b pos) (tE Γ G (.bin o ca cb)) := fun g C ho hc => by
    refine key _ ho fun H0 H σ ρ ft R Q x y v u f1 f2 a s w r1 r2 k => ?_
    obtain ⟨i, j, rfl, rfl, c, q⟩ := hc ρ R x y w
    refine ⟨i, j, rep_int r1.2, rep_int r2.2, c, k.val q a.env (.int _) s⟩
  cases o with
  | sub =>
    refine I (fun i j => i - j) (fun _ _ => True) (opI fun _ _ _ _ _ _ _ _ q => sub_int q) fun ρ R x y w => ?_
    obtain ⟨i, j, rfl, rfl, q⟩ := wpII.ok w
    exact ⟨_, _, rfl, rfl, trivial, q⟩
  | fdiv =>
    refine I (fun i j => i.fdiv j) _ op_fdivX fun ρ R x y w => ?_
    obtain ⟨i, j, rfl, rfl, q⟩ := wpII.ok w
    exact ⟨_, _, rfl, rfl, q.1.ok, q.2⟩
  | mod =>
    refine I (fun i j => i.fmod j) _ op_modN fun ρ R x y w => ?_
    obtain ⟨i, j, rfl, rfl, q⟩ := wpII.ok w
    exact ⟨_, _, rfl, rfl, q.1, q.2⟩
  | pow =>
    refine I (fun i j => i ^ j.toNat) _ op_pow fun ρ R x y w => ?_
    obtain ⟨i, j, rfl, rfl, q⟩ := wpII.ok w
    exact ⟨_, _, rfl, rfl, ⟨q.1.1, Int.le_trans q.1.2.1 (by decide), q.1.2.2⟩, q.2⟩
  | add =>
    refine key _ (op_add.or (op_catA.or op_cat)) fun H0 H σ ρ ft R Q x y v u f1 f2 a s w r1 r2 k => ?_
    have lists : (∃ l m, lstOf ρ x = some l ∧ lstOf ρ y = some m ∧ l.length + m.length ≤ 100000 ∧ R (.tmp (l ++ m)) ρ) → rCat v u H Q := by
      rintro ⟨l, m, e1, e2, hz, q⟩
      obtain ⟨p, vs, rfl, hp, rp⟩ := a.lstE e1 r1
      obtain ⟨p2, vs2, rfl, hp2, rp2⟩ := a.lstE e2 r2
      refine ⟨p, p2, vs, vs2, rfl, rfl, hp, hp2, sz5 (by rw [rp.length, rp2.length]; exact hz), fun z hz => ?_⟩
      exact k.newL q a.env (rp.append rp2) s hz
    have w' : wpAdd ρ x y R := w
    unfold wpAdd at w'
    split at w'
    · rename_i i j
      exact .inl ⟨i, j, rep_int r1.2, rep_int r2.2, k.val w' a.env (.int _) s⟩
    · rename_i xs ys
      right; left
      obtain ⟨_, r1⟩ := r1
      obtain ⟨_, r2⟩ := r2
      cases r1 with
      | tup h1 q1 =>
        cases r2 with
        | tup h2 q2 =>
          rename_i a1 v1 a2 v2
          have t1 : SqT X.K H a1 v1 := by rw [W.K]; exact h1.elim (fun z => .inl (.inl z)) .inr
          have t2 : SqT X.K H a2 v2 := by rw [W.K]; exact h2.elim (fun z => .inl (.inl z)) .inr
          refine ⟨a1, a2, v1, v2, rfl, rfl, t1, t2, sz5 (by rw [q1.length, q2.length]; exact w'.1), fun e => ?_, fun _ e => ?_, fun _ _ p hp => ?_⟩
          · subst e; cases q1
            exact k.val w'.2 a.env (.tup h2 q2) s
          · subst e; cases q2
            have w2 := w'.2
            rw [List.append_nil] at w2
            exact k.val w2 a.env (.tup h1 q1) s
          · exact k.newT w'.2 a.env (q1.append q2) s hp
    · right; right
      refine lists ?_
      split at w'
      · exact ⟨_, _, by assumption, by assumption, w'.1, w'.2⟩
      · exact w'.elim
  | mul =>
    refine key _ (op_mulX.or op_rep) fun H0 H σ ρ ft R Q x y v u f1 f2 a s w r1 r2 k => ?_
    have w' : wpMul ρ x y R := w
    unfold wpMul at w'
    split at w'
    · rename_i i j
      exact .inl ⟨i, j, rep_int r1.2, rep_int r2.2, w'.1.ok, k.val w'.2 a.env (.int _) s⟩
    · rename_i z _
      right
      split at w'
      · rename_i l e1
        obtain ⟨p, vs, rfl, hp, rp⟩ := a.lstE e1 r1
        refine ⟨p, z, vs, rfl, rep_int r2.2, hp, by omega, by omega, sz5 (by rw [rp.length]; exact w'.1.2.2), fun p2 h2 => ?_⟩
        exact k.newL w'.2 a.env (rp.rep _) s h2
      · exact w'.elim
    · exact w'.elim
end
end DL

/-! DLe -/
namespace DL
open PySem PySem.Spec PyProof.Rows L2

/-! ## chains of three -/
section
variable {X : Cx} {a b c d : Expr} {ta tb tc td : TE} {pos : Pos} {op op' op'' : CmpOp} {r r' r'' : R2}
def tChain3 (r r' r'' : R2) (ta tb tc td : TE) : TE := fun σ H Q => ta σ H fun x H1 => tb σ H1 fun y H2 => r x y H2 fun z H3 => ∃ k, z = .bl k ∧
  (if k = true then tc σ H3 fun w H4 => r' y w H4 fun z' H5 => ∃ k', z' = .bl k' ∧ (if k' = true then td σ H5 fun w' H6 => r'' w w' H6 Q else Q (.bl false) H5) else Q (.bl false) H3)
theorem last3 (h : op'' ≠ .In) (h2 : op'' ≠ .NotIn) : lastMarks [op, op', op''] [b, c, d] = false := by
  show behindInMarks op'' d = false
  exact nobehind d h h2
theorem pe_chain3 (ho : OpR X (compareOp op) r) (ho' : OpR X (compareOp op') r') (ho'' : OpR X (compareOp op'') r'') (ha : PE X a ta) (hb : PE X b tb) (hc : PE X c tc) (hd : PE X d td)
    (h1 : op'' ≠ .In) (h2 : op'' ≠ .NotIn) : PE X (.Compare a [op, op', op''] [b, c, d] pos) (tChain3 r r' r'' ta tb tc td) := by
  refine ⟨fun pins s σ H Q I h => ?_⟩
  refine Compare_chain (thn (ha.run pins s σ H _ I h) fun v s1 ⟨x, H1, I1, r1, q1⟩ => chain_link (thn (hb.run pins s1 σ H1 _ I1 q1) fun u s2 ⟨y, H2, I2, r2, q2⟩ =>
    thn (ho pins s2 σ H2 x y v u _ I2 r1 r2 q2) fun d s3 ⟨z, H3, I3, r3, k, e, q3⟩ => ?_)) (last3 h1 h2)
  subst e
  cases r3
  refine wpAny_truthy_bool ?_
  cases k with
  | false => exact ite_ff ⟨.bl false, H3, I3, rfl, q3⟩
  | true =>
    refine ite_tt (chain_link (thn (hc.run pins s3 σ H3 _ I3 q3) fun w s4 ⟨z', H4, I4, r4, q4⟩ => thn (ho' pins s4 σ H4 y z' u w _ I4 r2 r4 q4) fun d' s5 ⟨z2, H5, I5, r5, k2, e2, q5⟩ => ?_))
    subst e2
    cases r5
    refine wpAny_truthy_bool ?_
    cases k2 with
    | false => exact ite_ff ⟨.bl false, H5, I5, rfl, q5⟩
    | true => exact ite_tt (chain_last (thn (hd.run pins s5 σ H5 _ I5 q5) fun w' s6 ⟨z3, H6, I6, r6, q6⟩ => ho'' pins s6 σ H6 z' z3 w w' Q I6 r4 r6 q6))
theorem pt_chain3 (ho : OpR X (compareOp op) r) (ho' : OpR X (compareOp op') r') (ho'' : OpR X (compareOp op'') r'') (ha : PE X a ta) (hb : PE X b tb) (hc : PE X c tc) (hd : PE X d td)
    (h1 : op'' ≠ .In) (h2 : op'' ≠ .NotIn) : PT X (.Compare a [op, op', op''] [b, c, d] pos) (tTest (tChain3 r r' r'' ta tb tc td)) := by
  refine ⟨fun pins s σ H Q I h => ?_⟩
  refine isTrue_chain (thn (ha.run pins s σ H _ I h) fun v s1 ⟨x, H1, I1, r1, q1⟩ => test_link (thn (hb.run pins s1 σ H1 _ I1 q1) fun u s2 ⟨y, H2, I2, r2, q2⟩ =>
    thn (ho pins s2 σ H2 x y v u _ I2 r1 r2 q2) fun d s3 ⟨z, H3, I3, r3, k, e, q3⟩ => ?_)) (last3 h1 h2)
  subst e
  cases r3
  refine wpAny_truthy_bool ?_
  cases k with
  | false =>
    obtain ⟨k', e', q'⟩ := q3
    cases e'
    exact ite_ff ⟨H3, I3, q'⟩
  | true =>
    refine ite_tt (test_link (thn (hc.run pins s3 σ H3 _ I3 q3) fun w s4 ⟨z', H4, I4, r4, q4⟩ => thn (ho' pins s4 σ H4 y z' u w _ I4 r2 r4 q4) fun d' s5 ⟨z2, H5, I5, r5, k2, e2, q5⟩ => ?_))
    subst e2
    cases r5
    refine wpAny_truthy_bool ?_
    cases k2 with
    | false =>
      obtain ⟨k', e', q'⟩ := q5
      cases e'
      exact ite_ff ⟨H5, I5, q'⟩
    | true =>
      refine ite_tt (test_last (thn (hd.run pins s5 σ H5 _ I5 q5) fun w' s6 ⟨z3, H6, I6, r6, q6⟩ => thn (ho'' pins s6 σ H6 z' z3 w w' _ I6 r4 r6 q6) fun d2 s7 ⟨z4, H7, I7, r7, k4, e4, q7⟩ => ?_))
      subst e4
      cases r7
      exact wpAny_truthy_bool ⟨H7, I7, q7⟩
end

section
variable {Γ : Gam} {G : Cxt} {lv : Nat} {X : Cx} {pos : Pos} {a b c d : Expr} {ca cb cc cd : E}
/-! ## comparisons -/
def cop : COp → CmpOp
  | .lt => .Lt | .le => .LtE | .gt => .Gt | .ge => .GtE | .eq => .Eq | .ne => .NotEq
theorem cop_in (o : COp) : cop o ≠ .In := by cases o <;> decide
theorem cop_notin (o : COp) : cop o ≠ .NotIn := by cases o <;> decide
def rCI (o : COp) : R2 := fun x y H Q => ∃ i j k, x = .int i ∧ y = .int j ∧ cmpI o i j = some k ∧ Q (.bl k) H
theorem op_cI (o : COp) (W : Wd Γ G lv X) : OpR X (compareOp (cop o)) (rCI o) := by
  intro pins s σ H x y v u Q I rx ry h
  obtain ⟨i, j, k, rfl, rfl, e, q⟩ := h
  cases o with
  | lt => cases e; exact op_lt pins s σ H _ _ v u Q I rx ry ⟨i, j, rfl, rfl, q⟩
  | le => cases e; exact op_le pins s σ H _ _ v u Q I rx ry ⟨i, j, rfl, rfl, q⟩
  | gt => cases e; exact op_gt pins s σ H _ _ v u Q I rx ry ⟨i, j, rfl, rfl, q⟩
  | ge => cases e; exact op_ge pins s σ H _ _ v u Q I rx ry ⟨i, j, rfl, rfl, q⟩
  | eq => cases e
  | ne => cases e
def rCX (K : PySem.W.Frag) (o : COp) : R2 := match o with
  | .eq => rEqD K
  | .ne => rNeD K
  | o => rCI o
theorem op_cX (o : COp) (W : Wd Γ G lv X) : OpR X (compareOp (cop o)) (rCX X.K o) := by
  cases o with
  | eq => exact op_eqD W.hu
  | ne => exact op_neD W.hu
  | lt => exact op_cI .lt W
  | le => exact op_cI .le W
  | gt => exact op_cI .gt W
  | ge => exact op_cI .ge W
theorem wpCmpI.ok {o : COp} {x y : Ev} {Q : Bool → Prop} (h : wpCmpI o x y Q) : ∃ i j k, x = .val (.int i) ∧ y = .val (.int j) ∧ cmpI o i j = some k ∧ Q k := by
  unfold wpCmpI at h
  split at h
  · split at h
    · exact ⟨_, _, _, rfl, rfl, by assumption, h⟩
    · exact h.elim
  · exact h.elim
/-- a comparison by its values -/
theorem cmp_ok {o : COp} {H : Hp} {σ : L2.St} {ρ : Env} {ft : Fts} {Q : VK} {x y : Ev} {v u : V} {f1 f2 : List Addr} {P : Bool → Prop} (W : Wd Γ G lv X) (a : At G σ H ρ ft) (w : wpCmp o ρ x y P) (r1 : EvR G H ft x v f1) (r2 : EvR G H ft y u f2)
    (k : ∀ b, P b → Q (.bl b) H) : rCX X.K o v u H Q := by
  have intsC : wpCmpI o x y P → rCI o v u H Q := fun w => by
    obtain ⟨i, j, c, rfl, rfl, e, q⟩ := wpCmpI.ok w
    exact ⟨i, j, c, rep_int r1.2, rep_int r2.2, e, k c q⟩
  cases o with
  | lt => exact intsC w
  | le => exact intsC w
  | gt => exact intsC w
  | ge => exact intsC w
  | eq =>
    have w' : (match dof ρ x, dof ρ y with
      | some d, some e => okD d ∧ okD e ∧ P (deq d e)
      | _, _ => False) := w
    split at w'
    · rename_i d e e1 e2
      obtain ⟨o1, o2, q⟩ := w'
      refine ⟨toP d, toP e, ?_, ?_, o1.1, o2.1, k _ q⟩
      · rw [W.K]; exact a.dofE e1 r1 o1.2
      · rw [W.K]; exact a.dofE e2 r2 o2.2
    · exact w'.elim
  | ne =>
    have w' : (match dof ρ x, dof ρ y with
      | some d, some e => okD d ∧ okD e ∧ P (!deq d e)
      | _, _ => False) := w
    split at w'
    · rename_i d e e1 e2
      obtain ⟨o1, o2, q⟩ := w'
      refine ⟨toP d, toP e, ?_, ?_, o1.1, o2.1, k _ q⟩
      · rw [W.K]; exact a.dofE e1 r1 o1.2
      · rw [W.K]; exact a.dofE e2 r2 o2.2
    · exact w'.elim
theorem s_cmp (W : Wd Γ G lv X) (o : COp) (ha : PE X a (tE Γ G ca)) (hb : PE X b (tE Γ G cb)) : PE X (.Compare a [cop o] [b] pos) (tE Γ G (.cmp o ca cb)) := by
  refine (pe_cmpR (op_cX o W) ha hb (nobehind b (cop_in o) (cop_notin o))).imp (two (K := fun x y ρ R => wpCmp o ρ x y fun c => R (.val (.bl c)) ρ) (fun ρ R w => by simpa only [wpE] using w) fun H0 H σ ρ ft R Q x y v u f1 f2 a s w r1 r2 k => ?_)
  exact cmp_ok W a w r1 r2 fun b q => k.val q a.env (.bl b) s
theorem t_cmp (W : Wd Γ G lv X) (o : COp) (ha : PE X a (tE Γ G ca)) (hb : PE X b (tE Γ G cb)) : PT X (.Compare a [cop o] [b] pos) (tTest (tE Γ G (.cmp o ca cb))) := by
  refine (pt_cmpR (op_cX o W) ha hb (nobehind b (cop_in o) (cop_notin o))).imp fun σ H Q h => ?_
  exact two (K := fun x y ρ R => wpCmp o ρ x y fun c => R (.val (.bl c)) ρ) (fun ρ R w => by simpa only [wpE] using w) (fun H0 H σ ρ ft R Q x y v u f1 f2 a s w r1 r2 k => cmp_ok W a w r1 r2 fun b q => k.val q a.env (.bl b) s) σ H _ h
theorem int_keep {x : Ev} {i : Int} (h : x = .val (.int i)) {H H' : Hp} {ft : Fts} {v : V} {f : List Addr} (r : EvR G H ft x v f) : EvR G H' ft x v f := by
  subst h
  obtain ⟨e, r⟩ := r
  cases r
  exact ⟨e, .int i⟩
theorem chn_imp {o o' : COp} : ∀ (σ : L2.St) (H : Hp) (Q : VK), tE Γ G (.chn o o' ca cb cc) σ H Q → tChain (rCI o) (rCI o') (tE Γ G ca) (tE Γ G cb) (tE Γ G cc) σ H Q := by
  rintro σ H Q ⟨ρ, ft, R, a, w, k⟩
  simp only [wpE] at w
  refine ⟨ρ, ft, _, a, w, fun x ρ1 v H1 f1 w1 e1 r1 n1 fr1 s1 => ?_⟩
  refine ⟨ρ1, ft, _, a.next e1, w1, fun y ρ2 u H2 f2 w2 e2 r2 n2 fr2 s2 => ?_⟩
  obtain ⟨i, j, c, rfl, rfl, e, q⟩ := wpCmpI.ok w2
  refine ⟨i, j, c, rep_int r1.2, rep_int r2.2, e, c, rfl, ?_⟩
  cases c with
  | false => exact k.val q e2 (.bl false) (s1.trans s2)
  | true =>
    refine ⟨ρ2, ft, _, a.next e2, q, fun z ρ3 t H3 f3 w3 e3 r3 n3 fr3 s3 => ?_⟩
    obtain ⟨i', j', c', hi, rfl, e', q'⟩ := wpCmpI.ok w3
    cases hi
    exact ⟨j, j', c', rep_int r2.2, rep_int r3.2, e', k.val q' e3 (.bl c') ((s1.trans s2).trans s3)⟩
theorem chn3_imp {o o' o'' : COp} : ∀ (σ : L2.St) (H : Hp) (Q : VK), tE Γ G (.chn3 o o' o'' ca cb cc cd) σ H Q → tChain3 (rCI o) (rCI o') (rCI o'') (tE Γ G ca) (tE Γ G cb) (tE Γ G cc) (tE Γ G cd) σ H Q := by
  rintro σ H Q ⟨ρ, ft, R, a, w, k⟩
  simp only [wpE] at w
  refine ⟨ρ, ft, _, a, w, fun x ρ1 v H1 f1 w1 e1 r1 n1 fr1 s1 => ?_⟩
  refine ⟨ρ1, ft, _, a.next e1, w1, fun y ρ2 u H2 f2 w2 e2 r2 n2 fr2 s2 => ?_⟩
  obtain ⟨i, j, c, rfl, rfl, e, q⟩ := wpCmpI.ok w2
  refine ⟨i, j, c, rep_int r1.2, rep_int r2.2, e, c, rfl, ?_⟩
  cases c with
  | false => exact k.val q e2 (.bl false) (s1.trans s2)
  | true =>
    refine ⟨ρ2, ft, _, a.next e2, q, fun z ρ3 t H3 f3 w3 e3 r3 n3 fr3 s3 => ?_⟩
    obtain ⟨i', j', c', hi, rfl, e', q'⟩ := wpCmpI.ok w3
    cases hi
    refine ⟨j, j', c', rep_int r2.2, rep_int r3.2, e', c', rfl, ?_⟩
    cases c' with
    | false => exact k.val q' e3 (.bl false) ((s1.trans s2).trans s3)
    | true =>
      refine ⟨ρ3, ft, _, a.next e3, q', fun z' ρ4 t' H4 f4 w4 e4 r4 n4 fr4 s4 => ?_⟩
      obtain ⟨i2, j2, c2, hi2, rfl, e2', q2⟩ := wpCmpI.ok w4
      cases hi2
      exact ⟨j', j2, c2, rep_int r3.2, rep_int r4.2, e2', k.val q2 e4 (.bl c2) (((s1.trans s2).trans s3).trans s4)⟩
theorem last2 (o o' : COp) : lastMarks [cop o, cop o'] [b, c] = false := by
  show behindInMarks (cop o') c = false
  exact nobehind c (cop_in o') (cop_notin o')
theorem s_chn (W : Wd Γ G lv X) (o o' : COp) (ha : PE X a (tE Γ G ca)) (hb : PE X b (tE Γ G cb)) (hc : PE X c (tE Γ G cc)) : PE X (.Compare a [cop o, cop o'] [b, c] pos) (tE Γ G (.chn o o' ca cb cc)) :=
  (pe_chain (op_cI o W) (op_cI o' W) ha hb hc (last2 o o')).imp chn_imp
theorem t_chn (W : Wd Γ G lv X) (o o' : COp) (ha : PE X a (tE Γ G ca)) (hb : PE X b (tE Γ G cb)) (hc : PE X c (tE Γ G cc)) : PT X (.Compare a [cop o, cop o'] [b, c] pos) (tTest (tE Γ G (.chn o o' ca cb cc))) :=
  (pt_chain (op_cI o W) (op_cI o' W) ha hb hc (last2 o o')).imp fun σ H Q h => chn_imp σ H _ h
theorem s_chn3 (W : Wd Γ G lv X) (o o' o'' : COp) (ha : PE X a (tE Γ G ca)) (hb : PE X b (tE Γ G cb)) (hc : PE X c (tE Γ G cc)) (hd : PE X d (tE Γ G cd)) : PE X (.Compare a [cop o, cop o', cop o''] [b, c, d] pos) (tE Γ G (.chn3 o o' o'' ca cb cc cd)) :=
  (pe_chain3 (op_cI o W) (op_cI o' W) (op_cI o'' W) ha hb hc hd (cop_in o'') (cop_notin o'')).imp chn3_imp
theorem t_chn3 (W : Wd Γ G lv X) (o o' o'' : COp) (ha : PE X a (tE Γ G ca)) (hb : PE X b (tE Γ G cb)) (hc : PE X c (tE Γ G cc)) (hd : PE X d (tE Γ G cd)) : PT X (.Compare a [cop o, cop o', cop o''] [b, c, d] pos) (tTest (tE Γ G (.chn3 o o' o'' ca cb cc cd))) :=
  (pt_chain3 (op_cI o W) (op_cI o' W) (op_cI o'' W) ha hb hc hd (cop_in o'') (cop_notin o'')).imp fun σ H Q h => chn3_imp σ H _ h

/-! ## is None -/
theorem isNon_rep {H : Hp} {ft : Fts} {x : Ev} {v : V} {f : List Addr} (r : EvR G H ft x v f) : decide (v = .non) = isNon x := by
  cases x with
  | val d =>
    obtain ⟨_, r⟩ := r
    cases r <;> rfl
  | tmp ds => obtain ⟨p, vs, rfl, _⟩ := r; rfl
  | at_ p => cases p with
    | slot i => obtain ⟨_, f, p, _, _, rfl⟩ := r; rfl
    | fld i k => obtain ⟨_, f, p, _, _, rfl⟩ := r; rfl
  | obj C fs => obtain ⟨f, ⟨p, dx, gs, e, _⟩, _⟩ := r; cases e; rfl
def isop (pos : Bool) : CmpOp := if pos then .Is else .IsNot
theorem isN_imp {p : Bool} (r : R2) (hr : ∀ v H Q, Q (.bl (decide (v = .non) == p)) H → r v .non H Q) : ∀ (σ : L2.St) (H : Hp) (Q : VK), tE Γ G (.isN p ca) σ H Q → tOp r (tE Γ G ca) (tC .non) σ H Q := by
  rintro σ H Q ⟨ρ, ft, R, a, w, k⟩
  simp only [wpE] at w
  refine ⟨ρ, ft, _, a, w, fun x ρ1 v H1 f1 w1 e1 r1 n1 fr1 s1 => ?_⟩
  refine hr v H1 Q ?_
  rw [isNon_rep r1]
  exact k.val w1 e1 (.bl _) s1
theorem s_isN (p : Bool) (ha : PE X a (tE Γ G ca)) {k : Nat} {pos' : Pos} : PE X (.Compare a [isop p] [.Constant .none k pos'] pos) (tE Γ G (.isN p ca)) := by
  cases p with
  | true => exact (pe_cmpR op_isN ha pe_non (nobehind _ (by decide) (by decide))).imp (isN_imp _ fun v H Q q => ⟨rfl, by simpa using q⟩)
  | false => exact (pe_cmpR op_notN ha pe_non (nobehind _ (by decide) (by decide))).imp (isN_imp _ fun v H Q q => ⟨rfl, by simpa using q⟩)
theorem t_isN (p : Bool) (ha : PE X a (tE Γ G ca)) {k : Nat} {pos' : Pos} : PT X (.Compare a [isop p] [.Constant .none k pos'] pos) (tTest (tE Γ G (.isN p ca))) := by
  cases p with
  | true => exact (pt_cmpR op_isN ha pe_non (nobehind _ (by decide) (by decide))).imp fun σ H Q h => isN_imp _ (fun v H Q q => ⟨rfl, by simpa using q⟩) σ H _ h
  | false => exact (pt_cmpR op_notN ha pe_non (nobehind _ (by decide) (by decide))).imp fun σ H Q h => isN_imp _ (fun v H Q q => ⟨rfl, by simpa using q⟩) σ H _ h

/-! ## is True, is False -/
def opB (pos : Bool) (X : Cx) : Prop := OpR X (compareOp (isop pos)) fun x y H Q => ∃ a b : Bool, x = .bl a ∧ y = .bl b ∧ Q (.bl ((a == b) == pos)) H
theorem opB_ok (pos : Bool) : opB pos X := by
  intro pins s σ H x y v u Q I rx ry h
  obtain ⟨a, b, rfl, rfl, q⟩ := h
  cases rx
  cases ry
  cases pos
  · exact wpAny_pure (fin_bl I q (by cases a <;> cases b <;> rfl))
  · exact wpAny_pure (fin_bl I q (by cases a <;> cases b <;> rfl))
theorem isB_imp {p b : Bool} : ∀ (σ : L2.St) (H : Hp) (Q : VK), tE Γ G (.isB p ca b) σ H Q → tOp (fun x y H Q => ∃ a b : Bool, x = .bl a ∧ y = .bl b ∧ Q (.bl ((a == b) == p)) H) (tE Γ G ca) (tC (.bl b)) σ H Q := by
  rintro σ H Q ⟨ρ, ft, R, a, w, k⟩
  simp only [wpE] at w
  refine ⟨ρ, ft, _, a, w, fun x ρ1 v H1 f1 w1 e1 r1 n1 fr1 s1 => ?_⟩
  split at w1
  · rename_i c
    exact ⟨c, b, rep_bl r1.2, rfl, k.val w1 e1 (.bl _) s1⟩
  · exact w1.elim
theorem s_isB (p b : Bool) (ha : PE X a (tE Γ G ca)) {k : Nat} {pos' : Pos} : PE X (.Compare a [isop p] [.Constant (.bool b) k pos'] pos) (tE Γ G (.isB p ca b)) :=
  (pe_cmpR (opB_ok p) ha pe_bl (nobehind _ (by cases p <;> decide) (by cases p <;> decide))).imp isB_imp
theorem t_isB (p b : Bool) (ha : PE X a (tE Γ G ca)) {k : Nat} {pos' : Pos} : PT X (.Compare a [isop p] [.Constant (.bool b) k pos'] pos) (tTest (tE Γ G (.isB p ca b))) :=
  (pt_cmpR (opB_ok p) ha pe_bl (nobehind _ (by cases p <;> decide) (by cases p <;> decide))).imp fun σ H Q h => isB_imp σ H _ h

/-! ## in -/
def inop (pos : Bool) : CmpOp := if pos then .In else .NotIn
theorem rep_ints {H : Hp} : ∀ {xs : List Int} {vs : List V}, RepL G H vs (xs.map D.int) → vs = xs.map V.int
  | [], _, h => by cases h; rfl
  | x :: xs, _, h => by
    cases h with
    | cons a b => rw [rep_int a, rep_ints b]; rfl
theorem rep_strs {H : Hp} : ∀ {xs : List Str} {vs : List V}, RepL G H vs (xs.map D.str) → vs = xs.map V.str
  | [], _, h => by cases h; rfl
  | x :: xs, _, h => by
    cases h with
    | cons a b => cases a; rw [rep_strs b]; rfl
theorem rep_bls {H : Hp} : ∀ {xs : List Bool} {vs : List V}, RepL G H vs (xs.map D.bl) → vs = xs.map V.bl
  | [], _, h => by cases h; rfl
  | x :: xs, _, h => by
    cases h with
    | cons a b => rw [rep_bl a, rep_bls b]; rfl
theorem inV_int (x : Int) (xs : List Int) : inV (.int x) (xs.map V.int) = decide (x ∈ xs) := by
  unfold inV
  induction xs with
  | nil => rfl
  | cons y r ih =>
    rw [List.map_cons, List.any_cons, ih]
    have e : eqV (.int y) (.int x) = decide (y = x) := by
      show (y == x) = _
      rw [Bool.beq_eq_decide_eq]
    rw [e, ← Bool.decide_or]
    exact decide_eq_decide.mpr ⟨fun h => List.mem_cons.mpr (h.imp Eq.symm id), fun h => (List.mem_cons.mp h).imp Eq.symm id⟩
theorem inV_str (x : Str) (xs : List Str) : inV (.str x) (xs.map V.str) = decide (x ∈ xs) := by
  unfold inV
  induction xs with
  | nil => rfl
  | cons y r ih =>
    rw [List.map_cons, List.any_cons, ih]
    have e : eqV (.str y) (.str x) = decide (y = x) := by
      first
        | rfl
        | (show (y == x) = _; rw [beq_eq_decide])
    rw [e, ← Bool.decide_or]
    exact decide_eq_decide.mpr ⟨fun h => List.mem_cons.mpr (h.imp Eq.symm id), fun h => (List.mem_cons.mp h).imp Eq.symm id⟩
theorem in_imp (W : Wd Γ G lv X) {p : Bool} : ∀ (σ : L2.St) (H : Hp) (Q : VK), tE Γ G (.inn p ca cb) σ H Q → tOp (rIn X.K (!p)) (tE Γ G ca) (tE Γ G cb) σ H Q := by
  refine two (K := fun x y ρ R => wpIn p ρ x y fun c => R (.val (.bl c)) ρ) (fun ρ R w => by simpa only [wpE] using w) fun H0 H σ ρ ft R Q x y v u f1 f2 a s w r1 r2 k => ?_
  unfold wpIn at w
  have fin : ∀ {b : Bool}, (if (!p) = true then !b else b) = (b == p) := fun {b} => by cases p <;> cases b <;> rfl
  split at w
  · rename_i x ds e
    obtain ⟨xs, rfl, q⟩ := w
    obtain ⟨q1, vs, rfl, sq, rl⟩ := a.seqE e r2
    have ev := rep_ints rl
    subst ev
    refine ⟨q1, _, rfl, by rw [W.K]; exact sq, ?_, ?_, ?_⟩
    · rw [rep_int r1.2]; rfl
    · simp [List.all_map, flatV]
    · rw [rep_int r1.2, inV_int, fin]
      exact k.val q a.env (.bl _) s
  · rename_i x ds e
    obtain ⟨xs, rfl, q⟩ := w
    obtain ⟨q1, vs, rfl, sq, rl⟩ := a.seqE e r2
    have ev := rep_strs rl
    subst ev
    have hv : v = .str x := by cases r1.2; rfl
    refine ⟨q1, _, rfl, by rw [W.K]; exact sq, ?_, ?_, ?_⟩
    · rw [hv]; rfl
    · simp [List.all_map, flatV]
    · rw [hv, inV_str, fin]
      exact k.val q a.env (.bl _) s
  · exact w.elim
theorem s_inn (W : Wd Γ G lv X) (p : Bool) (ha : PE X a (tE Γ G ca)) (hb : PE X b (tE Γ G cb)) (hm : ∀ op, behindInMarks op b = false) : PE X (.Compare a [inop p] [b] pos) (tE Γ G (.inn p ca cb)) := by
  cases p with
  | true => exact (pe_cmpR op_in_seq ha hb (hm _)).imp (in_imp W)
  | false => exact (pe_cmpR op_notIn_seq ha hb (hm _)).imp (in_imp W)
theorem t_inn (W : Wd Γ G lv X) (p : Bool) (ha : PE X a (tE Γ G ca)) (hb : PE X b (tE Γ G cb)) (hm : ∀ op, behindInMarks op b = false) : PT X (.Compare a [inop p] [b] pos) (tTest (tE Γ G (.inn p ca cb))) := by
  cases p with
  | true => exact (pt_cmpR op_in_seq ha hb (hm _)).imp fun σ H Q h => in_imp W σ H _ h
  | false => exact (pt_cmpR op_notIn_seq ha hb (hm _)).imp fun σ H Q h => in_imp W σ H _ h

/-! ## and, or, not, minus as values -/
theorem s_and {r : List Expr} (ha : PE X a (tE Γ G ca)) (hb : PE X (.BoolOp .And (b :: r) pos) (tE Γ G cb)) : PE X (.BoolOp .And (a :: b :: r) pos) (tE Γ G (.and ca cb)) := by
  refine (pe_and ha hb).imp ?_
  rintro σ H Q ⟨ρ, ft, R, a, w, k⟩
  simp only [wpE] at w
  refine ⟨ρ, ft, _, a, w, fun x ρ1 v H1 f1 w1 e1 r1 n1 fr1 s1 => ?_⟩
  split at w1
  · rename_i c
    refine ⟨c, rep_bl r1.2, ?_⟩
    cases c with
    | true => exact ⟨ρ1, ft, R, a.next e1, w1, fun ev ρ' v H' fr h1 h2 h3 h4 h5 h6 => k ev ρ' v H' fr h1 h2 h3 h4 (fun x hx => s1.back x (h5 x hx)) (s1.trans h6)⟩
    | false => exact k.val w1 e1 (.bl false) s1
  · exact w1.elim
theorem s_or {r : List Expr} (ha : PE X a (tE Γ G ca)) (hb : PE X (.BoolOp .Or (b :: r) pos) (tE Γ G cb)) : PE X (.BoolOp .Or (a :: b :: r) pos) (tE Γ G (.or ca cb)) := by
  refine (pe_or ha hb).imp ?_
  rintro σ H Q ⟨ρ, ft, R, a, w, k⟩
  simp only [wpE] at w
  refine ⟨ρ, ft, _, a, w, fun x ρ1 v H1 f1 w1 e1 r1 n1 fr1 s1 => ?_⟩
  split at w1
  · rename_i c
    refine ⟨c, rep_bl r1.2, ?_⟩
    cases c with
    | false => exact ⟨ρ1, ft, R, a.next e1, w1, fun ev ρ' v H' fr h1 h2 h3 h4 h5 h6 => k ev ρ' v H' fr h1 h2 h3 h4 (fun x hx => s1.back x (h5 x hx)) (s1.trans h6)⟩
    | true => exact k.val w1 e1 (.bl true) s1
  · exact w1.elim
theorem s_not (ha : PE X a (tE Γ G ca)) : PE X (.UnaryOp .Not a pos) (tE Γ G (.not ca)) := by
  refine (pe_not ha).imp ?_
  rintro σ H Q ⟨ρ, ft, R, a, w, k⟩
  simp only [wpE] at w
  refine ⟨ρ, ft, _, a, w, fun x ρ1 v H1 f1 w1 e1 r1 n1 fr1 s1 => ?_⟩
  split at w1
  · rename_i c
    exact ⟨c, rep_bl r1.2, k.val w1 e1 (.bl _) s1⟩
  · exact w1.elim
theorem s_neg (ha : PE X a (tE Γ G ca)) : PE X (.UnaryOp .USub a pos) (tE Γ G (.neg ca)) := by
  refine (pe_un un_neg ha).imp ?_
  rintro σ H Q ⟨ρ, ft, R, a, w, k⟩
  simp only [wpE] at w
  refine ⟨ρ, ft, _, a, w, fun x ρ1 v H1 f1 w1 e1 r1 n1 fr1 s1 => ?_⟩
  split at w1
  · rename_i c
    exact ⟨c, rep_int r1.2, k.val w1 e1 (.int _) s1⟩
  · exact w1.elim

/-! ## tests -/
def generic : E → Bool
  | .and _ _ => false | .or _ _ => false | .not _ => false | _ => true
theorem wpT_gen {c : E} (h : generic c = true) {ρ : Env} {Q : Bool → Env → Prop} : wpT Γ c ρ Q = wpE Γ c ρ fun x ρ1 => (match x with
    | .val (.bl b) => Q b ρ1
    | _ => False) := by
  cases c <;> first | rfl | cases h
/-- a value as a test -/
theorem tT_of {c : E} (h : generic c = true) : ∀ (σ : L2.St) (H : Hp) (Q : Bool → Hp → Prop), tT Γ G c σ H Q → tTest (tE Γ G c) σ H Q := by
  rintro σ H Q ⟨ρ, ft, R, a, w, k⟩
  rw [wpT_gen h] at w
  refine ⟨ρ, ft, _, a, w, fun x ρ1 v H1 f1 w1 e1 r1 n1 fr1 s1 => ?_⟩
  split at w1
  · rename_i c
    exact ⟨c, rep_bl r1.2, k c ρ1 H1 w1 e1 s1⟩
  · exact w1.elim
theorem t_val {c : E} (h : generic c = true) (ha : PE X a (tE Γ G c)) (he : ∀ whole, isTrue a X.env whole = (do let v ← whole; standAt a.pos; holding [v] (truthy v))) : PT X a (tT Γ G c) := (pt_val ha he).imp (tT_of h)
theorem t_and {r : List Expr} (ha : PT X a (tT Γ G ca)) (hb : PW X (.BoolOp .And (b :: r) pos) (tT Γ G cb)) : PW X (.BoolOp .And (a :: b :: r) pos) (tT Γ G (.and ca cb)) := by
  refine (pw_and ha hb).imp ?_
  rintro σ H Q ⟨ρ, ft, R, a, w, k⟩
  simp only [wpT] at w
  refine ⟨ρ, ft, _, a, w, fun c ρ1 H1 w1 e1 s1 => ?_⟩
  cases c with
  | true => exact ⟨ρ1, ft, R, a.next e1, w1, fun b ρ' H' h1 h2 h3 => k b ρ' H' h1 h2 (s1.trans h3)⟩
  | false => exact k false ρ1 H1 w1 e1 s1
theorem t_or {r : List Expr} (ha : PT X a (tT Γ G ca)) (hb : PW X (.BoolOp .Or (b :: r) pos) (tT Γ G cb)) : PW X (.BoolOp .Or (a :: b :: r) pos) (tT Γ G (.or ca cb)) := by
  refine (pw_or ha hb).imp ?_
  rintro σ H Q ⟨ρ, ft, R, a, w, k⟩
  simp only [wpT] at w
  refine ⟨ρ, ft, _, a, w, fun c ρ1 H1 w1 e1 s1 => ?_⟩
  cases c with
  | false => exact ⟨ρ1, ft, R, a.next e1, w1, fun b ρ' H' h1 h2 h3 => k b ρ' H' h1 h2 (s1.trans h3)⟩
  | true => exact k true ρ1 H1 w1 e1 s1
theorem t_not (ha : PT X a (tT Γ G ca)) : PT X (.UnaryOp .Not a pos) (tT Γ G (.not ca)) := by
  refine (pt_not ha).imp ?_
  rintro σ H Q ⟨ρ, ft, R, a, w, k⟩
  simp only [wpT] at w
  exact ⟨ρ, ft, _, a, w, fun c ρ1 H1 w1 e1 s1 => k _ ρ1 H1 w1 e1 s1⟩

/-! ## subscripts, slices -/
theorem s_ix (W : Wd Γ G lv X) (ha : PE X a (tE Γ G ca)) (hb : PE X b (tE Γ G cb)) (hp : PlainIx b) : PE X (.Subscript a b pos) (tE Γ G (.ix ca cb)) := by
  refine (pe_ix (ix_list.or ix_tup) ha hb hp).imp (two (K := fun x y ρ R => wpIx ρ x y R) (fun ρ R w => by simpa only [wpE] using w) fun H0 H σ ρ ft R Q x y v u f1 f2 a s w r1 r2 k => ?_)
  unfold wpIx at w
  split at w
  · rename_i ds i e
    obtain ⟨d, hd, q⟩ := w
    obtain ⟨q1, vs, rfl, sq, rl⟩ := a.seqE e r1
    obtain ⟨j, h1, h2, h3, h4, h5⟩ := atI_get hd
    obtain ⟨x, hx, rx⟩ := rl.get h2
    have e1 : atI vs i = some x := by
      unfold atI at hd ⊢
      rw [rl.length]
      cases z : ixN ds.length i with
      | none => rw [z] at hd; cases hd
      | some n =>
        rw [z] at hd
        have hz := (ixN_seq z).1
        rw [h1] at hz
        cases hz
        exact hx
    have fin : Q x H := k.val q a.env rx s
    rcases sq with sq | sq
    · exact .inl ⟨q1, vs, i, x, rfl, rep_int r2.2, by rw [W.K]; exact sq, e1, fin⟩
    · exact .inr ⟨q1, vs, i, x, rfl, rep_int r2.2, by rw [W.K]; exact sq, e1, fin⟩
  · exact w.elim
theorem cutR {H : Hp} {vs : List V} {ds : List D} (r : RepL G H vs ds) (lo hi : Option Int) : RepL G H (cutV vs lo hi) (cut ds lo hi) := by
  unfold cutV cut
  rw [r.length]
  exact (r.drop _).take _
theorem cut_whole {α : Type} (xs : List α) (lo hi : Option Int) (h : HT.sIx xs.length 0 lo = 0 ∧ HT.sIx xs.length xs.length hi = xs.length) : cut xs lo hi = xs := by
  unfold cut
  rw [h.1, h.2]
  simp
theorem s_sl (W : Wd Γ G lv X) {lo hi : Option Expr} {cl ch : Eo} {p2 : Pos} (ha : PE X a (tE Γ G ca)) (hl : PO X lo (tO Γ G cl)) (hh : PO X hi (tO Γ G ch)) : PE X (.Subscript a (.Slice lo hi none p2) pos) (tE Γ G (.sl ca cl ch)) := by
  refine (pe_slice (sl_list.or sl_tupA) ha hl hh).imp ?_
  rintro σ H Q ⟨ρ, ft, R, a, w, k⟩
  simp only [wpE] at w
  refine ⟨ρ, ft, _, a, w, fun x ρ1 v H1 f1 w1 e1 r1 n1 fr1 s1 => ?_⟩
  refine ⟨ρ1, ft, _, a.next e1, w1, fun l ρ2 H2 w2 e2 s2 => ?_⟩
  refine ⟨ρ2, ft, _, a.next e2, w2, fun h ρ3 H3 w3 e3 s3 => ?_⟩
  have s4 := (s1.trans s2).trans s3
  have r3 : EvR G H3 ft x v f1 := r1.mono (s2.trans s3) (apart_of a fr1)
  have a3 := a.next e3
  unfold wpSl at w3
  split at w3
  · rename_i ds e
    right
    have e' : seqOf ρ3 x = some ds := by unfold seqOf; rw [e]
    cases x with
    | val d =>
      cases e
      obtain ⟨_, r3⟩ := r3
      cases r3 with
      | tup hq rl =>
        rename_i q1 vs
        have sq : SqT X.K H3 q1 vs := by rw [W.K]; exact hq.elim (fun z => .inl (.inl z)) .inr
        refine ⟨q1, vs, rfl, sq, fun hw => ?_, fun hw p hp => ?_⟩
        · rw [cut_whole ds _ _ (by rw [← rl.length]; exact hw)] at w3
          exact k.val w3 e3 (.tup hq rl) s4
        · exact k.newT w3 e3 (cutR rl l h) s4 hp
    | tmp es => cases e
    | at_ p =>
      simp only [dof] at e
      split at e <;> cases e
    | obj C fs => cases e
  · rename_i ds e
    left
    have e' : seqOf ρ3 x = some ds := by unfold seqOf; rw [e]
    have key : ∃ q1 vs, v = .ref q1 ∧ SqL G.K H3 q1 vs ∧ RepL G H3 vs ds := by
      cases x with
      | val d =>
        cases e
        obtain ⟨_, r3⟩ := r3
        cases r3 with
        | lst hq rl => exact ⟨_, _, rfl, hq.elim (fun ⟨o, z⟩ => .inl (.inr ⟨o, z⟩)) .inr, rl⟩
      | tmp es =>
        cases e
        obtain ⟨q1, vs, h1, h2, h3⟩ := a3.lstE (e := .tmp ds) rfl r3
        exact ⟨q1, vs, h1, SqL.of h2, h3⟩
      | at_ p =>
        simp only [dof] at e
        split at e
        · cases e
          rename_i z
          obtain ⟨q1, vs, h1, _, h2, h3⟩ := a3.lst z r3
          exact ⟨q1, vs, h1, SqL.of h2, h3⟩
        · cases e
      | obj C fs => cases e
    obtain ⟨q1, vs, rfl, sq, rl⟩ := key
    exact ⟨q1, vs, rfl, by rw [W.K]; exact sq, fun p hp => k.newL w3 e3 (cutR rl l h) s4 hp⟩
  · exact w3.elim
theorem s_no : PO X none (tO Γ G .no) := by
  refine po_none.imp ?_
  rintro σ H Q ⟨ρ, ft, R, a, w, k⟩
  simp only [wpO] at w
  exact k none ρ H w a.env (Step.refl _ _)
theorem s_yes (ha : PE X a (tE Γ G ca)) : PO X (some a) (tO Γ G (.yes ca)) := by
  refine (po_some ha).imp ?_
  rintro σ H Q ⟨ρ, ft, R, a, w, k⟩
  simp only [wpO] at w
  refine ⟨ρ, ft, _, a, w, fun x ρ1 v H1 f1 w1 e1 r1 n1 fr1 s1 => ?_⟩
  split at w1
  · rename_i c
    exact ⟨c, rep_int r1.2, k (some c) ρ1 H1 w1 e1 s1⟩
  · exact w1.elim

/-! ## argument lists, displays -/
theorem s_nil : PA X [] (tEs Γ G .nil) := by
  refine pa_nil.imp ?_
  rintro σ H Q ⟨ρ, ft, R, a, w, k⟩
  simp only [wpEs] at w
  exact k [] ρ [] H [] w a.env .nil List.nodup_nil (fun a m => by cases m) (Step.refl _ _)
theorem s_cons {es : List Expr} {cs : Es} (ha : PE X a (tE Γ G ca)) (hr : PA X es (tEs Γ G cs)) (hs : starEach (a :: es) X.env = (false, eval a X.env) :: starEach es X.env) : PA X (a :: es) (tEs Γ G (.cons ca cs)) := by
  refine (pa_cons ha hr hs).imp ?_
  rintro σ H Q ⟨ρ, ft, R, a, w, k⟩
  simp only [wpEs] at w
  refine ⟨ρ, ft, _, a, w, fun x ρ1 v H1 f1 w1 e1 r1 n1 fr1 s1 => ?_⟩
  refine ⟨ρ1, ft, _, a.next e1, w1, fun xs ρ2 vs H2 f2 w2 e2 r2 n2 fr2 s2 => ?_⟩
  refine k (x :: xs) ρ2 (v :: vs) H2 (f1 ++ f2) w2 e2 (.cons (r1.mono s2 (apart_of a fr1)) r2) ?_ (fun z hz => ?_) (s1.trans s2)
  · refine List.nodup_append.mpr ⟨n1, n2, fun x hx y hy e => ?_⟩
    subst e
    obtain ⟨o, ho⟩ := r1.known x hx
    rw [fr2 x hy] at ho; cases ho
  · exact (List.mem_append.mp hz).elim (fr1 z) fun q => s1.back z (fr2 z q)
theorem vals_rep {H : Hp} {ft : Fts} : ∀ {evs : List Ev} {vs : List V} {fr : List Addr} {ds : List D}, EvsR G H ft evs vs fr → valsOf evs = some ds → RepL G H vs ds
  | _, _, _, _, .nil, e => by cases e; exact .nil
  | _, _, _, ds, .cons (e := x) (es := es) r t, e => by
    unfold valsOf at e
    split at e
    · rename_i h
      cases h
    · rename_i d r' h
      cases h
      split at e
      · rename_i ds' e2
        cases e
        exact .cons r.2 (vals_rep t e2)
      · cases e
    · cases e
theorem EvsR.length {H : Hp} {ft : Fts} : ∀ {evs : List Ev} {vs : List V} {fr : List Addr}, EvsR G H ft evs vs fr → vs.length = evs.length
  | _, _, _, .nil => rfl
  | _, _, _, .cons _ t => by rw [List.length_cons, List.length_cons, EvsR.length t]
theorem s_tup {es : List Expr} {cs : Es} {x1 : Nat} (h : PA X es (tEs Γ G cs)) : PE X (.Tuple es x1 pos) (tE Γ G (.tup cs)) := by
  refine (pe_tup h).imp (args (r := fun xs H1 Q => xs.length ≤ sizeLine ∧ ∀ p, H1 p = none → Q (.ref p) (upd H1 p (.tup xs))) (K := fun evs ρ1 R => evs.length ≤ 1000 ∧ (match valsOf evs with
    | some ds => R (.val (.tup ds)) ρ1
    | none => False)) (fun ρ R w => by simp only [wpE] at w; exact w) fun H0 H σ ρ ft R Q xs vs fr a s w r n f k => ?_)
  obtain ⟨hl, w⟩ := w
  split at w
  · rename_i ds e
    exact ⟨sz5 (by rw [r.length]; omega), fun p hp => k.newT w a.env (vals_rep r e) s hp⟩
  · exact w.elim
theorem s_lst {es : List Expr} {cs : Es} (h : PA X es (tEs Γ G cs)) : PE X (.List es pos) (tE Γ G (.lst cs)) := by
  refine (pe_lst h).imp (args (r := fun xs H1 Q => xs.length ≤ sizeLine ∧ ∀ p, H1 p = none → Q (.ref p) (upd H1 p (.lst xs))) (K := fun evs ρ1 R => evs.length ≤ 1000 ∧ (match valsOf evs with
    | some ds => R (.tmp ds) ρ1
    | none => False)) (fun ρ R w => by simp only [wpE] at w; exact w) fun H0 H σ ρ ft R Q xs vs fr a s w r n f k => ?_)
  obtain ⟨hl, w⟩ := w
  split at w
  · rename_i ds e
    exact ⟨sz5 (by rw [r.length]; omega), fun p hp => k.newL w a.env (vals_rep r e) s hp⟩
  · exact w.elim
end
end DL

/-! DLf -/
namespace DL
open PySem PySem.Spec PyProof.Rows L2

/-! ## arguments: what the callee owns meanwhile -/
inductive ArgF (ft : Fts) : List Ev → List V → Fts → Prop
  | nil : ArgF ft [] [] []
  | val {d : D} {v : V} {es : List Ev} {vs : List V} {fa : Fts} : ArgF ft es vs fa → ArgF ft (.val d :: es) (v :: vs) (ft0 :: fa)
  | tmp {ds : List D} {p : Addr} {es : List Ev} {vs : List V} {fa : Fts} : p ∉ adsOf ft → p ∉ adsOf fa → ArgF ft es vs fa → ArgF ft (.tmp ds :: es) (.ref p :: vs) (ftL p :: fa)
  | slot {i : Nat} {f : Ft} {p : Addr} {es : List Ev} {vs : List V} {fa : Fts} : ft[i]? = some f → f.self = some p → i ∉ touch es → ArgF ft es vs fa → ArgF ft (.at_ (.slot i) :: es) (.ref p :: vs) (f :: fa)
  | fld {i k : Nat} {f : Ft} {p : Addr} {es : List Ev} {vs : List V} {fa : Fts} : ft[i]? = some f → f.fl[k]? = some (some p) → i ∉ touch es → ArgF ft es vs fa → ArgF ft (.at_ (.fld i k) :: es) (.ref p :: vs) (ftL p :: fa)
section
variable {G : Cxt} {σ : L2.St} {H H' : Hp} {ρ : Env} {ft : Fts}
theorem ads_L (p : Addr) : (ftL p).ads = [p] := rfl
theorem ads_0 : ft0.ads = [] := rfl
theorem adsOf_cons (f : Ft) (fa : Fts) : adsOf (f :: fa) = f.ads ++ adsOf fa := rfl
theorem touch_fld {i k : Nat} : ∀ {es : List Ev}, Ev.at_ (.fld i k) ∈ es → i ∈ touch es
  | [], m => by cases m
  | x :: r, m => by
    rcases List.mem_cons.mp m with z | z
    · subst z; simp [touch]
    · have ih := touch_fld (es := r) z
      cases x with
      | at_ p => cases p <;> exact List.mem_cons_of_mem _ ih
      | _ => exact ih
/-- where an argument's address stands -/
theorem ArgF.where_ : ∀ {es : List Ev} {vs : List V} {fa : Fts}, ArgF ft es vs fa → ∀ a ∈ adsOf fa, a ∉ adsOf ft ∨ ∃ i f, i ∈ touch es ∧ ft[i]? = some f ∧ a ∈ f.ads
  | _, _, _, .nil, a, h => by cases h
  | _, _, _, .val t, a, h => by
    rw [adsOf_cons, ads_0] at h
    exact t.where_ a h
  | _, _, _, .tmp (p := p) n _ t, a, h => by
    rw [adsOf_cons, ads_L] at h
    rcases List.mem_append.mp h with h | h
    · have : a = p := by simpa using h
      rw [this]; exact .inl n
    · exact t.where_ a h
  | _, _, _, .slot (i := i) (f := f) e _ _ t, a, h => by
    rw [adsOf_cons] at h
    rcases List.mem_append.mp h with h | h
    · exact .inr ⟨i, f, by simp [touch], e, h⟩
    · rcases t.where_ a h with z | ⟨j, g, h1, h2, h3⟩
      · exact .inl z
      · exact .inr ⟨j, g, by simp [touch, h1], h2, h3⟩
  | _, _, _, .fld (i := i) (k := k) (f := f) (p := p) e e2 _ t, a, h => by
    rw [adsOf_cons, ads_L] at h
    rcases List.mem_append.mp h with h | h
    · have : a = p := by simpa using h
      subst this
      exact .inr ⟨i, f, by simp [touch], e, Ft.fl_mem (List.mem_of_getElem? e2)⟩
    · rcases t.where_ a h with z | ⟨j, g, h1, h2, h3⟩
      · exact .inl z
      · exact .inr ⟨j, g, by simp [touch, h1], h2, h3⟩
theorem ArgF.apart (nd : (adsOf ft).Nodup) {es : List Ev} {vs : List V} {fa : Fts} (t : ArgF ft es vs fa) {i : Nat} {f : Ft} (hi : i ∉ touch es) (hf : ft[i]? = some f) : ∀ a ∈ f.ads, a ∉ adsOf fa := fun a ha h => by
  rcases t.where_ a h with z | ⟨j, g, h1, h2, h3⟩
  · exact z (mem_ads hf ha)
  · have := nd_apart nd hf h2 ha h3
    subst this
    exact hi h1
theorem nodup_sub : ∀ {ft : Fts} {i : Nat} {f : Ft}, (adsOf ft).Nodup → ft[i]? = some f → f.ads.Nodup
  | x :: r, 0, f, nd, h => by
    simp at h; subst h
    exact (List.nodup_append.mp (show (x.ads ++ adsOf r).Nodup from nd)).1
  | x :: r, i + 1, f, nd, h => nodup_sub (List.nodup_append.mp (show (x.ads ++ adsOf r).Nodup from nd)).2.1 (by simpa using h)
  | [], i, f, _, h => by simp at h
theorem ArgF.nodup (nd : (adsOf ft).Nodup) : ∀ {es : List Ev} {vs : List V} {fa : Fts}, ArgF ft es vs fa → (adsOf fa).Nodup
  | _, _, _, .nil => List.nodup_nil
  | _, _, _, .val t => by
    rw [adsOf_cons, ads_0]
    exact t.nodup nd
  | _, _, _, .tmp (p := p) n n2 t => by
    rw [adsOf_cons, ads_L]
    exact List.nodup_cons.mpr ⟨n2, t.nodup nd⟩
  | _, _, _, .slot (f := f) e _ n t => by
    rw [adsOf_cons]
    refine List.nodup_append.mpr ⟨nodup_sub nd e, t.nodup nd, fun a ha b hb z => ?_⟩
    subst z
    exact t.apart nd n e a ha hb
  | _, _, _, .fld (p := p) e e2 n t => by
    rw [adsOf_cons, ads_L]
    exact List.nodup_cons.mpr ⟨t.apart nd n e p (Ft.fl_mem (List.mem_of_getElem? e2)), t.nodup nd⟩
/-- the arguments as the callee's slots -/
theorem args_env (a : At G σ H ρ ft) : ∀ {es : List Ev} {vs : List V} {fr : List Addr} {ss : List Sl}, EvsR G H ft es vs fr → fr.Nodup → (∀ x ∈ fr, x ∉ adsOf ft) → (touch es).Nodup → slsOf ρ es = some ss →
    ∃ fa, EnvR G H (vs.map some) ss fa ∧ ArgF ft es vs fa ∧ ∀ x ∈ adsOf fa, x ∈ adsOf ft ∨ x ∈ fr
  | _, _, _, ss, .nil, _, _, _, e => by
    cases e
    exact ⟨[], trivial, .nil, fun x h => by cases h⟩
  | _, _, _, ss, .cons (e := x) (es := es) (v := v) (vs := vs) (fr := f1) (frs := f2) r t, nd, ap, nt, e => by
    unfold slsOf at e
    cases e1 : slOf ρ x with
    | none => rw [e1] at e; cases e
    | some s =>
      cases e2 : slsOf ρ es with
      | none => rw [e1, e2] at e; cases e
      | some ss' =>
        rw [e1, e2] at e
        cases e
        have nd2 := List.nodup_append.mp nd
        have nt2 : (touch es).Nodup := by
          cases x with
          | val d => exact nt
          | tmp ds => exact nt
          | obj C fs => cases e1
          | at_ p => cases p with
            | slot i => exact (List.nodup_cons.mp nt).2
            | fld i k => exact (List.nodup_cons.mp nt).2
        obtain ⟨fa, h1, h2, h3⟩ := args_env a t nd2.2.1 (fun z hz => ap z (List.mem_append_right _ hz)) nt2 e2
        cases x with
        | val d =>
          cases e1
          obtain ⟨_, r⟩ := r
          refine ⟨ft0 :: fa, ⟨⟨v, rfl, ⟨rfl, r⟩, rfl⟩, h1⟩, .val h2, fun z hz => ?_⟩
          rw [adsOf_cons, ads_0] at hz
          exact (h3 z hz).imp id fun q => List.mem_append_right _ q
        | tmp ds =>
          cases e1
          obtain ⟨p, vs', rfl, rfl, h4, h5⟩ := r
          have np : p ∉ adsOf ft := ap p (by simp)
          have np2 : p ∉ adsOf fa := fun z => (h3 p z).elim np fun q => nd2.2.2 p (by simp) p q rfl
          refine ⟨ftL p :: fa, ⟨⟨.ref p, rfl, ⟨p, vs', rfl, rfl, h4, h5⟩, rfl⟩, h1⟩, .tmp np np2 h2, fun z hz => ?_⟩
          rw [adsOf_cons, ads_L] at hz
          rcases List.mem_append.mp hz with q | q
          · exact .inr (List.mem_append_left _ q)
          · exact (h3 z q).imp id fun q => List.mem_append_right _ q
        | obj C fs => cases e1
        | at_ pl => cases pl with
          | slot i =>
            obtain ⟨_, f, p, hf, hs, rfl⟩ := r
            simp only [slOf] at e1
            cases e3 : ρ[i]? with
            | none => simp only [e3] at e1; cases e1
            | some s' =>
              obtain ⟨o, f', g1, g2, g3⟩ := a.env.get e3
              rw [hf] at g2; cases g2
              simp only [e3] at e1
              have key : s' = s ∧ o = some (.ref p) := by
                cases s' with
                | non => cases e1
                | fd y =>
                  cases y with
                  | val d => cases e1
                  | lst ds =>
                    obtain ⟨v', ev, ⟨q, vs', eq, es', _⟩, _⟩ := g3
                    rw [hs] at es'; cases es'
                    exact ⟨Option.some.inj e1, by rw [ev, eq]⟩
                | ins C fs =>
                  obtain ⟨q, dx, gs, eo, es', _⟩ := g3
                  rw [hs] at es'; cases es'
                  exact ⟨Option.some.inj e1, eo⟩
              obtain ⟨rfl, rfl⟩ := key
              refine ⟨f :: fa, ⟨g3, h1⟩, .slot hf hs (List.nodup_cons.mp nt).1 h2, fun z hz => ?_⟩
              rw [adsOf_cons] at hz
              rcases List.mem_append.mp hz with q | q
              · exact .inl (mem_ads hf q)
              · exact (h3 z q).imp id fun q => List.mem_append_right _ q
          | fld i k =>
            have e1' : (match lstAt ρ (.fld i k) with
              | some ds => some (Sl.fd (.lst ds))
              | none => none) = some s := e1
            cases e3 : lstAt ρ (.fld i k) with
            | none => rw [e3] at e1'; cases e1'
            | some ds =>
              rw [e3] at e1'
              cases e1'
              obtain ⟨q, vs', rfl, _, h4, h5⟩ := a.lst e3 r
              obtain ⟨_, f, p, hf, hs, ep⟩ := r
              cases ep
              refine ⟨ftL q :: fa, ⟨⟨.ref q, rfl, ⟨q, vs', rfl, rfl, h4, h5⟩, rfl⟩, h1⟩, .fld hf hs (List.nodup_cons.mp nt).1 h2, fun z hz => ?_⟩
              rw [adsOf_cons, ads_L] at hz
              rcases List.mem_append.mp hz with q' | q'
              · have : z = q := by simpa using q'
                rw [this]; exact .inl (mem_ads hf (Ft.fl_mem (List.mem_of_getElem? hs)))
              · exact (h3 z q').imp id fun q => List.mem_append_right _ q
/-- the states that come back, place by place -/
inductive ArgW (G : Cxt) (H' : Hp) (σ : L2.St) (ft : Fts) (A : List Addr) : List Ev → List Sl → Prop
  | nil {ss : List Sl} : ArgW G H' σ ft A [] ss
  | skip {e : Ev} {s : Sl} {es : List Ev} {ss : List Sl} : (∀ p, e ≠ .at_ p) → ArgW G H' σ ft A es ss → ArgW G H' σ ft A (e :: es) (s :: ss)
  | slot {i : Nat} {s : Sl} {o : Option V} {f : Ft} {es : List Ev} {ss : List Sl} : σ[i]? = some o → ft[i]? = some f → SlR G H' o f s → i ∉ touch es → ArgW G H' σ ft A es ss → ArgW G H' σ ft A (.at_ (.slot i) :: es) (s :: ss)
  | fld {i k : Nat} {ds : List D} {f : Ft} {q : Addr} {vs : List V} {es : List Ev} {ss : List Sl} : ft[i]? = some f → f.fl[k]? = some (some q) → (∀ a ∈ f.ads, a ∈ A → a = q) → H' q = some (.lst vs) → RepL G H' vs ds → i ∉ touch es → ArgW G H' σ ft A es ss → ArgW G H' σ ft A (.at_ (.fld i k) :: es) (.fd (.lst ds) :: ss)
theorem fl_nodup {f : Ft} (h : f.ads.Nodup) {j k : Nat} {q : Addr} (h1 : f.fl[j]? = some (some q)) (h2 : f.fl[k]? = some (some q)) : j = k := by
  unfold Ft.ads at h
  have h3 := (List.nodup_append.mp h).2.1
  have go : ∀ (l : List (Option Addr)) (j k : Nat), (l.filterMap id).Nodup → l[j]? = some (some q) → l[k]? = some (some q) → j = k := by
    intro l
    induction l with
    | nil => intro j k _ e; simp at e
    | cons x r ih =>
      intro j k nd e1 e2
      cases x with
      | none =>
        cases j with
        | zero => simp at e1
        | succ j =>
          cases k with
          | zero => simp at e2
          | succ k => rw [ih j k (by simpa using nd) (by simpa using e1) (by simpa using e2)]
      | some y =>
        have nd' : (y :: r.filterMap id).Nodup := by simpa using nd
        obtain ⟨n1, n2⟩ := List.nodup_cons.mp nd'
        have mem : ∀ m, r[m]? = some (some q) → q ∈ r.filterMap id := fun m e => List.mem_filterMap.mpr ⟨some q, List.mem_of_getElem? e, rfl⟩
        cases j with
        | zero =>
          cases k with
          | zero => rfl
          | succ k =>
            have e1' : y = q := by simpa using e1
            subst e1'
            exact absurd (mem k (by simpa using e2)) n1
        | succ j =>
          cases k with
          | zero =>
            have e2' : y = q := by simpa using e2
            subst e2'
            exact absurd (mem j (by simpa using e1)) n1
          | succ k => rw [ih j k n2 (by simpa using e1) (by simpa using e2)]
  exact go _ j k h3 h1 h2
theorem self_fl {f : Ft} (h : f.ads.Nodup) {p q : Addr} (h1 : f.self = some p) {k : Nat} (h2 : f.fl[k]? = some (some q)) : p ≠ q := fun e => by
  subst e
  unfold Ft.ads at h
  rw [h1] at h
  exact (List.nodup_append.mp h).2.2 p (by simp) p (List.mem_filterMap.mpr ⟨some p, List.mem_of_getElem? h2, rfl⟩) rfl
/-- one field's list has changed -/
theorem FdsR.setL {A : List Addr} (s : Step A H H') : ∀ {gs : List (Str × V)} {fs : List (Fn × Fd)} {fl : List (Option Addr)} {k : Nat} {n : Fn} {y : Fd} {q : Addr} {vs : List V} {ds : List D}, FdsR G H gs fs fl → fs[k]? = some (n, y) → (∃ es, y = .lst es) → fl[k]? = some (some q) →
    (∀ (j : Nat) (p : Addr), fl[j]? = some (some p) → p ∈ A → j = k) → H' q = some (.lst vs) → RepL G H' vs ds → FdsR G H' gs (fs.set k (n, .lst ds)) fl
  | (m, v) :: gs, (n', x) :: fs, f :: fl, 0, n, y, q, vs, ds, ⟨e, r, t⟩, h1, ⟨es, h2⟩, h3, h4, h5, h6 => by
    simp at h1 h3
    obtain ⟨rfl, rfl⟩ := h1
    subst h2 h3
    obtain ⟨q', vs', e1, e2, _, _⟩ := r
    cases e2
    exact ⟨e, ⟨q, vs, e1, rfl, h5, h6⟩, t.mono s fun p hp hA => by
      obtain ⟨j, hj, ej⟩ := List.mem_iff_getElem.mp hp
      have := h4 (j + 1) p (by rw [List.getElem?_cons_succ, List.getElem?_eq_getElem hj, ej]) hA
      omega⟩
  | (m, v) :: gs, (n', x) :: fs, f :: fl, k + 1, n, y, q, vs, ds, ⟨e, r, t⟩, h1, h2, h3, h4, h5, h6 => by
    refine ⟨e, r.mono s fun p hp hA => ?_, FdsR.setL s t (by simpa using h1) h2 (by simpa using h3) (fun j p hj hA => by
      have := h4 (j + 1) p (by simpa using hj) hA
      omega) h5 h6⟩
    have := h4 0 p (by rw [hp]; rfl) hA
    omega
  | [], [], [], k, _, _, _, _, _, _, h1, _, _, _, _, _ => by simp at h1
  | [], [], _ :: _, _, _, _, _, _, _, h, _, _, _, _, _, _ => h.elim
  | [], _ :: _, _, _, _, _, _, _, _, h, _, _, _, _, _, _ => h.elim
  | _ :: _, [], _, _, _, _, _, _, _, h, _, _, _, _, _, _ => h.elim
  | (_, _) :: _, (_, _) :: _, [], _, _, _, _, _, _, h, _, _, _, _, _, _ => h.elim
/-- one field's list has changed: the slot -/
theorem SlR.setL {A : List Addr} (s : Step A H H') {o : Option V} {f : Ft} {C : Cn} {fs : List (Fn × Fd)} (r : SlR G H o f (.ins C fs)) (nd : f.ads.Nodup) {k : Nat} {n : Fn} {es ds : List D} {q : Addr} {vs : List V} (h1 : fs[k]? = some (n, .lst es)) (h2 : f.fl[k]? = some (some q))
    (h3 : ∀ a ∈ f.ads, a ∈ A → a = q) (h4 : H' q = some (.lst vs)) (h5 : RepL G H' vs ds) : SlR G H' o f (.ins C (fs.set k (n, .lst ds))) := by
  obtain ⟨p, dx, gs, e1, e2, e3, e4, e5⟩ := r
  refine ⟨p, dx, gs, e1, e2, s.keep _ _ e3 fun z => self_fl nd e2 h2 (h3 p (Ft.self_mem e2) z), ?_, by simpa using e5⟩
  refine FdsR.setL s e4 h1 ⟨_, rfl⟩ h2 (fun j p' hj hA => ?_) h4 h5
  have := h3 p' (Ft.fl_mem (List.mem_of_getElem? hj)) hA
  subst this
  exact fl_nodup nd hj h2
theorem wb_length (ρ : Env) : ∀ (es : List Ev) (ss : List Sl), (wb ρ es ss).length = ρ.length := by
  intro es
  induction es generalizing ρ with
  | nil => intro ss; unfold wb; rfl
  | cons e r ih =>
    intro ss
    cases ss with
    | nil => rfl
    | cons s ss =>
      unfold wb
      rw [ih]
      unfold wb1
      split
      · simp
      · unfold setAt
        split
        · simp
        · split
          · split
            · simp
            · rfl
          · rfl
      · rfl
theorem wb_ok {A : List Addr} (s : Step A H H') (nd : (adsOf ft).Nodup) (lσ : σ.length = ft.length) : ∀ {es : List Ev} {ss : List Sl} {ρ : Env}, ArgW G H' σ ft A es ss → ρ.length = ft.length →
    (∀ (i : Nat) (o : Option V) (f : Ft) (x : Sl), σ[i]? = some o → ft[i]? = some f → ρ[i]? = some x → (i ∈ touch es → SlR G H o f x) ∧ (i ∉ touch es → SlR G H' o f x)) → (∀ (i k : Nat), Ev.at_ (.fld i k) ∈ es → ∃ C fs n l, ρ[i]? = some (.ins C fs) ∧ fs[k]? = some (n, .lst l)) → es.length ≤ ss.length → EnvR G H' σ (wb ρ es ss) ft
  | _, ss, ρ, .nil, hl, h, _, _ => by
    have e : wb ρ [] ss = ρ := by unfold wb; rfl
    rw [e]
    exact EnvR.of (by omega) (by omega) fun i o f x a b c => (h i o f x a b c).2 (by simp [touch])
  | _, _, ρ, .skip (e := e) (s := x) (es := es) (ss := ss) ne t, hl, h, hf, hz => by
    have e1 : wb ρ (e :: es) (x :: ss) = wb ρ es ss := by
      show wb (wb1 ρ e x) es ss = _
      have : wb1 ρ e x = ρ := by
        unfold wb1
        split
        · exact absurd rfl (ne _)
        · exact absurd rfl (ne _)
        · rfl
      rw [this]
    rw [e1]
    have e2 : touch (e :: es) = touch es := by
      cases e with
      | at_ p => exact absurd rfl (ne p)
      | _ => rfl
    refine wb_ok s nd lσ t hl (by rw [← e2]; exact h) (fun i k hk => hf i k (List.mem_cons_of_mem _ hk)) (by simpa using hz)
  | _, _, ρ, .slot (i := i) (s := x) (o := o) (f := f) (es := es) (ss := ss) h1 h2 h3 h4 t, hl, h, hf, hz => by
    show EnvR G H' σ (wb (ρ.set i x) es ss) ft
    refine wb_ok s nd lσ t (by simpa using hl) (fun j o' f' x' a b c => ?_) (fun j k hk => ?_) (by simpa using hz)
    · by_cases e : i = j
      · subst e
        have hi : i < ρ.length := by have := (List.getElem?_eq_some_iff.mp b).1; omega
        rw [List.getElem?_set_self hi] at c
        cases c
        rw [h1] at a; rw [h2] at b; cases a; cases b
        exact ⟨fun z => absurd z h4, fun _ => h3⟩
      · rw [List.getElem?_set_ne e] at c
        obtain ⟨q1, q2⟩ := h j o' f' x' a b c
        exact ⟨fun z => q1 (List.mem_cons_of_mem _ z), fun z => q2 fun y => (List.mem_cons.mp y).elim (fun w => e w.symm) z⟩
    · obtain ⟨C, fs, n, l, e1, e2⟩ := hf j k (List.mem_cons_of_mem _ hk)
      have ne : i ≠ j := fun e => by
        subst e
        exact h4 (touch_fld hk)
      exact ⟨C, fs, n, l, by rw [List.getElem?_set_ne ne]; exact e1, e2⟩
  | _, _, ρ, .fld (i := i) (k := k) (ds := ds) (f := f) (q := q) (vs := vs) (es := es) (ss := ss) h1 h2 h3 h4 h5 h6 t, hl, h, hf, hz => by
    obtain ⟨C, fs, n, l, e1, e2⟩ := hf i k List.mem_cons_self
    have e3 : wb ρ (.at_ (.fld i k) :: es) (.fd (.lst ds) :: ss) = wb (ρ.set i (.ins C (fs.set k (n, .lst ds)))) es ss := by
      show wb (setAt ρ (.fld i k) (.lst ds)) es ss = _
      simp only [setAt, e1, e2]
    rw [e3]
    refine wb_ok s nd lσ t (by simpa using hl) (fun j o' f' x' a b c => ?_) (fun j k' hk => ?_) (by simpa using hz)
    · by_cases e : i = j
      · subst e
        have hi : i < ρ.length := by have := (List.getElem?_eq_some_iff.mp b).1; omega
        rw [List.getElem?_set_self hi] at c
        cases c
        rw [h1] at b; cases b
        have pre := (h i o' f (.ins C fs) a h1 e1).1 (by simp [touch])
        exact ⟨fun z => absurd z h6, fun _ => pre.setL s (nodup_sub nd h1) e2 h2 h3 h4 h5⟩
      · rw [List.getElem?_set_ne e] at c
        obtain ⟨q1, q2⟩ := h j o' f' x' a b c
        exact ⟨fun z => q1 (List.mem_cons_of_mem _ z), fun z => q2 fun y => (List.mem_cons.mp y).elim (fun w => e w.symm) z⟩
    · obtain ⟨C', fs', n', l', g1, g2⟩ := hf j k' (List.mem_cons_of_mem _ hk)
      have ne : i ≠ j := fun e => by
        subst e
        exact h6 (touch_fld hk)
      exact ⟨C', fs', n', l', by rw [List.getElem?_set_ne ne]; exact g1, g2⟩
/-- the states behind a call, place by place -/
theorem argW_of (a : At G σ H ρ ft) {A : List Addr} : ∀ {es : List Ev} {vs : List V} {fa : Fts} {ss ss' : List Sl}, ArgF ft es vs fa → slsOf ρ es = some ss → EnvR G H' (vs.map some) ss' fa → wbOk es ss' →
    (∀ (i k : Nat) (f : Ft) (q : Addr), Ev.at_ (.fld i k) ∈ es → ft[i]? = some f → f.fl[k]? = some (some q) → ∀ x ∈ f.ads, x ∈ A → x = q) → ArgW G H' σ ft A es ss'
  | _, _, _, ss, ss', .nil, _, _, _, _ => .nil
  | _, _, _, ss, s' :: ss', .val (d := d) (es := es) t, e, ⟨_, h⟩, w, hA => by
    simp only [slsOf, slOf] at e
    cases e2 : slsOf ρ es with
    | none => rw [e2] at e; cases e
    | some r => exact .skip (fun p z => nomatch z) (argW_of a t e2 h w fun i k f q m => hA i k f q (List.mem_cons_of_mem _ m))
  | _, _, _, ss, s' :: ss', .tmp (ds := ds) (es := es) _ _ t, e, ⟨_, h⟩, w, hA => by
    simp only [slsOf, slOf] at e
    cases e2 : slsOf ρ es with
    | none => rw [e2] at e; cases e
    | some r => exact .skip (fun p z => nomatch z) (argW_of a t e2 h w fun i k f q m => hA i k f q (List.mem_cons_of_mem _ m))
  | _, _, _, ss, s' :: ss', .slot (i := i) (f := f) (p := p) (es := es) hf hs n t, e, ⟨g, h⟩, w, hA => by
    unfold slsOf at e
    cases e1 : slOf ρ (.at_ (.slot i)) with
    | none => rw [e1] at e; cases e
    | some s =>
      cases e2 : slsOf ρ es with
      | none => rw [e1, e2] at e; cases e
      | some r =>
        have i0 : i < ρ.length := by have := (List.getElem?_eq_some_iff.mp hf).1; have := a.env.length; omega
        obtain ⟨o, f', g1, g2, g3⟩ := a.env.get (i := i) (s := ρ[i]) (List.getElem?_eq_getElem i0)
        rw [hf] at g2; cases g2
        simp only [slOf, List.getElem?_eq_getElem i0] at e1
        have eo : o = some (.ref p) := by
          generalize ρ[i] = z at e1 g3
          cases z with
          | non => cases e1
          | fd y =>
            cases y with
            | val d => cases e1
            | lst ds =>
              obtain ⟨v', ev, ⟨q, vs', eq, es', _⟩, _⟩ := g3
              rw [hs] at es'; cases es'
              rw [ev, eq]
          | ins C fs =>
            obtain ⟨q, dx, gs, eo, es', _⟩ := g3
            rw [hs] at es'; cases es'
            exact eo
        subst eo
        exact .slot g1 hf g n (argW_of a t e2 h w fun i k f q m => hA i k f q (List.mem_cons_of_mem _ m))
  | _, _, _, ss, s' :: ss', .fld (i := i) (k := k) (f := f) (p := p) (es := es) hf hs n t, e, ⟨g, h⟩, w, hA => by
    unfold slsOf at e
    cases e1 : slOf ρ (.at_ (.fld i k)) with
    | none => rw [e1] at e; cases e
    | some s =>
      cases e2 : slsOf ρ es with
      | none => rw [e1, e2] at e; cases e
      | some r =>
        cases s' with
        | non => exact (show False from w).elim
        | ins C fs => exact (show False from w).elim
        | fd y => cases y with
          | val d => exact (show False from w).elim
          | lst ds =>
            have w' : wbOk es ss' := w
            obtain ⟨v', ev, ⟨q, vs', eq, es', h4, h5⟩, _⟩ := g
            cases es'
            exact .fld hf hs (hA i k f p List.mem_cons_self hf hs) h4 h5 n (argW_of a t e2 h w' fun i k f q m => hA i k f q (List.mem_cons_of_mem _ m))
  | _, _, _, _, [], .val _, _, h, _, _ => h.elim
  | _, _, _, _, [], .tmp _ _ _, _, h, _, _ => h.elim
  | _, _, _, _, [], .slot _ _ _ _, _, h, _, _ => h.elim
  | _, _, _, _, [], .fld _ _ _ _, _, h, _, _ => h.elim
/-- an argument that is a field's list stands for just that list -/
theorem ArgF.only (nd : (adsOf ft).Nodup) : ∀ {es : List Ev} {vs : List V} {fa : Fts}, ArgF ft es vs fa → (touch es).Nodup → ∀ (i k : Nat) (f : Ft) (q : Addr), Ev.at_ (.fld i k) ∈ es → ft[i]? = some f → f.fl[k]? = some (some q) → ∀ x ∈ f.ads, x ∈ adsOf fa → x = q
  | _, _, _, .nil, _, i, k, f, q, m, _, _, x, _, _ => by cases m
  | _, _, _, .val t, nt, i, k, f, q, m, h1, h2, x, hx, hm => by
    rw [adsOf_cons, ads_0] at hm
    rcases List.mem_cons.mp m with z | z
    · cases z
    · exact t.only nd nt i k f q z h1 h2 x hx hm
  | _, _, _, .tmp (p := p) n1 n2 t, nt, i, k, f, q, m, h1, h2, x, hx, hm => by
    rw [adsOf_cons, ads_L] at hm
    rcases List.mem_cons.mp m with z | z
    · cases z
    · rcases List.mem_append.mp hm with y | y
      · have : x = p := by simpa using y
        rw [this] at hx
        exact absurd (mem_ads h1 hx) n1
      · exact t.only nd nt i k f q z h1 h2 x hx y
  | _, _, _, .slot (i := i') (f := f') e _ n t, nt, i, k, f, q, m, h1, h2, x, hx, hm => by
    rw [adsOf_cons] at hm
    rcases List.mem_cons.mp m with z | z
    · cases z
    · rcases List.mem_append.mp hm with y | y
      · have := nd_apart nd h1 e hx y
        subst this
        exact absurd (touch_fld z) n
      · exact t.only nd (List.nodup_cons.mp nt).2 i k f q z h1 h2 x hx y
  | _, _, _, .fld (i := i') (k := k') (f := f') (p := p) e e2 n t, nt, i, k, f, q, m, h1, h2, x, hx, hm => by
    rw [adsOf_cons, ads_L] at hm
    rcases List.mem_cons.mp m with z | z
    · cases z
      rw [e] at h1; cases h1
      rw [e2] at h2; cases h2
      rcases List.mem_append.mp hm with y | y
      · simpa using y
      · exact absurd y (t.apart nd n e x hx)
    · rcases List.mem_append.mp hm with y | y
      · have ex : x = p := by simpa using y
        subst ex
        have := nd_apart nd h1 e hx (Ft.fl_mem (List.mem_of_getElem? e2))
        subst this
        exact absurd (touch_fld z) n
      · exact t.only nd (List.nodup_cons.mp nt).2 i k f q z h1 h2 x hx y
theorem fld_there : ∀ {es : List Ev} {ss : List Sl}, slsOf ρ es = some ss → ∀ (i k : Nat), Ev.at_ (.fld i k) ∈ es → ∃ C fs n l, ρ[i]? = some (.ins C fs) ∧ fs[k]? = some (n, .lst l)
  | [], _, _, _, _, m => by cases m
  | x :: es, ss, e, i, k, m => by
    unfold slsOf at e
    cases e1 : slOf ρ x with
    | none => rw [e1] at e; cases e
    | some s =>
      cases e2 : slsOf ρ es with
      | none => rw [e1, e2] at e; cases e
      | some r =>
        rcases List.mem_cons.mp m with z | z
        · subst z
          have e1' : (match lstAt ρ (.fld i k) with
              | some ds => some (Sl.fd (.lst ds))
              | none => none) = some s := e1
          cases e3 : lstAt ρ (.fld i k) with
          | none => rw [e3] at e1'; cases e1'
          | some ds =>
            simp only [lstAt] at e3
            cases e4 : ρ[i]? with
            | none => simp only [e4] at e3; cases e3
            | some y =>
              cases y with
              | non => simp only [e4] at e3; cases e3
              | fd _ => simp only [e4] at e3; cases e3
              | ins C fs =>
                simp only [e4] at e3
                cases e5 : fs[k]? with
                | none => simp only [e5] at e3; cases e3
                | some w =>
                  obtain ⟨n, w⟩ := w
                  cases w with
                  | val d => simp only [e5] at e3; cases e3
                  | lst l => exact ⟨C, fs, n, l, rfl, e5⟩
        · exact fld_there e2 i k z
theorem slsOf_length : ∀ {es : List Ev} {ss : List Sl}, slsOf ρ es = some ss → ss.length = es.length
  | [], _, e => by cases e; rfl
  | x :: es, ss, e => by
    unfold slsOf at e
    cases e1 : slOf ρ x with
    | none => rw [e1] at e; cases e
    | some s =>
      cases e2 : slsOf ρ es with
      | none => rw [e1, e2] at e; cases e
      | some r =>
        rw [e1, e2] at e
        cases e
        simp [slsOf_length e2]
theorem EvsR.no_obj {ft : Fts} : ∀ {es : List Ev} {ss : List Sl}, slsOf ρ es = some ss → ∀ C fs, Ev.obj C fs ∉ es
  | [], _, _, _, _, m => by cases m
  | x :: es, ss, e, C, fs, m => by
    unfold slsOf at e
    cases e1 : slOf ρ x with
    | none => rw [e1] at e; cases e
    | some s =>
      cases e2 : slsOf ρ es with
      | none => rw [e1, e2] at e; cases e
      | some r =>
        rcases List.mem_cons.mp m with z | z
        · subst z; cases e1
        · exact EvsR.no_obj (ft := ft) e2 C fs z
/-- behind a call -/
theorem back_ok (a : At G σ H ρ ft) {es : List Ev} {vs : List V} {fa : Fts} {ss ss' : List Sl} (t : ArgF ft es vs fa) (nt : (touch es).Nodup) (e : slsOf ρ es = some ss) (s : Step (adsOf fa) H H') (h : EnvR G H' (vs.map some) ss' fa) (w : wbOk es ss') : EnvR G H' σ (wb ρ es ss') ft := by
  have l := a.env.length
  have lv : es.length ≤ ss'.length := by
    have h1 := h.length.1
    rw [List.length_map] at h1
    have : ∀ {es : List Ev} {vs : List V} {fa : Fts}, ArgF ft es vs fa → vs.length = es.length := by
      intro es vs fa t
      induction t with
      | nil => rfl
      | val _ ih => simp [ih]
      | tmp _ _ _ ih => simp [ih]
      | slot _ _ _ _ ih => simp [ih]
      | fld _ _ _ _ ih => simp [ih]
    rw [this t] at h1
    omega
  refine wb_ok s a.nd (by omega) (argW_of a t e h w (t.only a.nd nt)) (by omega) (fun i o f x h1 h2 h3 => ⟨fun _ => a.env.at_ h1 h2 h3, fun ni => ?_⟩) (fld_there e) lv
  exact (a.env.at_ h1 h2 h3).mono s (t.apart a.nd ni h2)
end
end DL

/-! DLg -/
namespace DL
open PySem PySem.Spec PyProof.Rows L2
section
variable {Γ : Gam} {G : Cxt} {lv : Nat} {X : Cx} {pos : Pos} {a b : Expr} {ca cb : E} {cs : Es} {e : Expr} {es : List Expr}

/-! ## calls -/
theorem call_fin {H0 H : Hp} {σ : L2.St} {ρ : Env} {ft : Fts} {R : QE} {Q : VK} {xs : List Ev} {vs : List V} {fr : List Addr} {S : Spec} {ss : List Sl} (a : At G σ H ρ ft) (s : Step (adsOf ft) H0 H) (r : EvsR G H ft xs vs fr) (n : fr.Nodup) (f : ∀ x ∈ fr, H0 x = none)
    (ap : ∀ x ∈ fr, x ∉ adsOf ft) (k : Fin G σ ft H0 R Q) (e : slsOf ρ xs = some ss) (nt : (touch xs).Nodup) (h : S ss fun r ss' => wbOk xs ss' ∧ R (evOf r) (wb ρ xs ss')) : spOf G S vs H Q (fun _ _ _ => False) := by
  obtain ⟨fa, h1, h2, h3⟩ := args_env a r n ap nt e
  refine ⟨ss, fa, _, ⟨h1, h2.nodup a.nd⟩, h, fun r' ss' v H' fr' hr he hf hn hs => ?_⟩
  obtain ⟨hw, hr⟩ := hr
  have env := back_ok a h2 nt e hs he hw
  have st : Step (adsOf ft) H0 H' := s.transN hs fun x hx => (h3 x hx).imp id (f x)
  cases r' with
  | val d =>
    obtain ⟨_, rd⟩ := hf
    exact k.val hr env rd st
  | lst ds =>
    obtain ⟨p, vs', ev, ef, hp, rl⟩ := hf
    refine k (.tmp ds) _ v H' [p] hr env ⟨p, vs', ev, rfl, hp, rl⟩ (by simp) (fun x hx => ?_) st
    have : x = p := by simpa using hx
    rw [this]
    exact s.back p (hn p ef)
theorem fresh_ap {σ : L2.St} {H0 H : Hp} {ρ : Env} {ft : Fts} (a : At G σ H ρ ft) (s : Step (adsOf ft) H0 H) (a0 : ∀ p ∈ adsOf ft, ∃ o, H0 p = some o) {fr : List Addr} (f : ∀ x ∈ fr, H0 x = none) : ∀ x ∈ fr, x ∉ adsOf ft := fun x hx m => by
  obtain ⟨o, h⟩ := a0 x m
  rw [f x hx] at h; cases h
/-- as args, what is owned was known at the start -/
theorem args' {c : E} {cs : Es} {K : List Ev → Env → QE → Prop} {r : List V → Hp → VK → Prop} (hw : ∀ ρ R, wpE Γ c ρ R → wpEs Γ cs ρ fun xs ρ1 => K xs ρ1 R)
    (hr : ∀ (H0 H : Hp) (σ : L2.St) (ρ : Env) (ft : Fts) (R : QE) (Q : VK) (xs : List Ev) (vs : List V) (fr : List Addr), At G σ H ρ ft → Step (adsOf ft) H0 H → K xs ρ R → EvsR G H ft xs vs fr → fr.Nodup → (∀ a ∈ fr, H0 a = none) → (∀ x ∈ fr, x ∉ adsOf ft) → Fin G σ ft H0 R Q → r vs H Q) :
    ∀ σ H Q, tE Γ G c σ H Q → (fun (σ : L2.St) (H : Hp) (Q : VK) => tEs Γ G cs σ H fun vs H1 => r vs H1 Q) σ H Q := by
  rintro σ H Q ⟨ρ, ft, R, a, w, k⟩
  refine ⟨ρ, ft, _, a, hw ρ R w, fun xs ρ1 vs H1 f1 w1 e1 r1 n1 fr1 s1 => ?_⟩
  exact hr H H1 σ ρ1 ft R Q xs vs f1 (a.next e1) s1 w1 r1 n1 fr1 (apart_of a fr1) k
theorem call_imp {i : Nat} {x : Str} {S : Spec} (hk : Γ.fn[i]? = some (x, S)) : ∀ σ H Q, tE Γ G (.call i cs) σ H Q → tCall (spOf G S) [] (fun _ _ _ => False) (tEs Γ G cs) σ H Q := by
  refine args' (r := fun vs H1 Q => spOf G S (vs ++ []) H1 Q (fun _ _ _ => False)) (K := fun evs ρ1 R => (match slsOf ρ1 evs with
    | some ss => (touch evs).Nodup ∧ S ss fun r ss' => wbOk evs ss' ∧ R (evOf r) (wb ρ1 evs ss')
    | none => False)) (fun ρ R w => ?_) fun H0 H σ ρ ft R Q xs vs fr a s w r n f ap k => ?_
  · simp only [wpE, hk] at w
    have e : (fun (evs : List Ev) (ρ1 : Env) => (match some (x, S), slsOf ρ1 evs with
      | some p, some ss => (touch evs).Nodup ∧ p.2 ss fun r ss' => wbOk evs ss' ∧ R (evOf r) (wb ρ1 evs ss')
      | _, _ => False)) = fun evs ρ1 => (match slsOf ρ1 evs with
      | some ss => (touch evs).Nodup ∧ S ss fun r ss' => wbOk evs ss' ∧ R (evOf r) (wb ρ1 evs ss')
      | none => False) := by
      funext evs ρ1
      cases slsOf ρ1 evs <;> rfl
    rw [← e]
    exact w
  · rw [List.append_nil]
    split at w
    · rename_i ss e
      exact call_fin a s r n f ap k e w.1 w.2
    · exact w.elim
theorem s_call (W : Wd Γ G lv X) {i : Nat} {x : Str} {S : Spec} {p : Pos} (hk : Γ.fn[i]? = some (x, S)) (hg : Gl X x) (hd : (x == ("__debug__" : Str)) = false) (ha : PA X (e :: es) (tEs Γ G cs)) (he : starEach (e :: es) X.env = (false, eval e X.env) :: starEach es X.env)
    (hpl : (backTo pos (starEach es X.env)).any (·.1) = false) : PE X (.Call (.Name x p) (e :: es) [] pos) (tE Γ G (.call i cs)) := by
  obtain ⟨f, fd, ps, F, hm, hk2, hb⟩ := (W.fn _ (List.mem_of_getElem? hk)).ex
  have F' : FnOk X.prog X.w X.K X.mg X.base CX0 lv f fd ps (spOf G S) := by rw [W.K, W.mg]; exact F
  exact (pe_call F' (W.room.mono (Nat.le_succ _)) hg (by rw [W.mg]; exact hm) (by rw [W.K]; exact hk2) (by rw [W.K]; exact hb) .nil pass0 ha hd he hpl).imp (call_imp hk)
theorem s_call0 (W : Wd Γ G lv X) {i : Nat} {x : Str} {S : Spec} {p : Pos} (hk : Γ.fn[i]? = some (x, S)) (hg : Gl X x) (hd : (x == ("__debug__" : Str)) = false) : PE X (.Call (.Name x p) [] [] pos) (tE Γ G (.call i .nil)) := by
  obtain ⟨f, fd, ps, F, hm, hk2, hb⟩ := (W.fn _ (List.mem_of_getElem? hk)).ex
  have F' : FnOk X.prog X.w X.K X.mg X.base CX0 lv f fd ps (spOf G S) := by rw [W.K, W.mg]; exact F
  refine (pe_call0 F' (W.room.mono (Nat.le_succ _)) hg (by rw [W.mg]; exact hm) (by rw [W.K]; exact hk2) (by rw [W.K]; exact hb) .nil pass0 hd).imp fun σ H Q h => ?_
  have h2 := call_imp hk σ H Q h
  obtain ⟨ρ, ft, R, a, w, k⟩ := h2
  simp only [wpEs] at w
  exact k [] ρ [] H [] w a.env .nil List.nodup_nil (fun a m => by cases m) (Step.refl _ _)
/-- a def held by a name -/
theorem s_callv (W : Wd Γ G lv X) {i : Nat} {x : Str} {p : Pos} (hN : X.N[i]? = some x) (hv : Vis X.env.scope x) (hd : (x == ("__debug__" : Str)) = false) (hcd : (x == ("__classdict__" : Str)) = false) (ha : PA X (e :: es) (tEs Γ G cs)) (he : starEach (e :: es) X.env = (false, eval e X.env) :: starEach es X.env)
    (hpl : (backTo pos (starEach es X.env)).any (·.1) = false) : PE X (.Call (.Name x p) (e :: es) [] pos) (tE Γ G (.callv i cs)) := by
  refine ⟨fun pins s σ H Q I h => ?_⟩
  obtain ⟨ρ, ft, R, a, w, k⟩ := h
  simp only [wpE] at w
  split at w
  · rename_i y e1
    obtain ⟨j, S, hk, w⟩ := w
    obtain ⟨o, f0, h1, h2, v, ev, ⟨_, hr⟩, _⟩ := a.env.get e1
    obtain ⟨f, fd, ps, F, hm, hk2, hb⟩ := (W.fn _ (List.mem_of_getElem? hk)).ex
    have F' : FnOk X.prog X.w X.K X.mg X.base CX0 lv f fd ps (spOf G S) := by rw [W.K, W.mg]; exact F
    cases hr with
    | fn hm' =>
      rw [hm] at hm'
      cases hm'
      subst ev
      refine (pe_callL (i := i) (f := f) (sp := spOf G S) (dvs := []) (E := fun _ _ _ => False) F' (W.room.mono (Nat.le_succ _)) hN hv (by rw [W.K]; exact hk2) (by rw [W.K]; exact hb) .nil pass0 ha hd hcd he hpl).run pins s σ H Q I ⟨h1, ?_⟩
      refine ⟨ρ, ft, _, a, w, fun xs ρ1 vs H1 f1 w1 e1 r1 n1 fr1 s1 => ?_⟩
      show spOf G S (vs ++ []) H1 Q fun _ _ _ => False
      rw [List.append_nil]
      split at w1
      · rename_i ss e2
        exact call_fin (a.next e1) s1 r1 n1 fr1 (apart_of a fr1) k e2 w1.1 w1.2
      · exact w1.elim
  · exact w.elim
/-- a new instance -/
theorem new_imp {i : Nat} {C : Cn} {x : Str} {S : ISpec} (hk : Γ.ini[i]? = some (C, x, S)) : ∀ σ H Q, tE Γ G (.new i cs) σ H Q → tMake (G.cl C) (spI G C S) [] (fun _ _ _ => False) (tEs Γ G cs) σ H Q := by
  rintro σ H Q ⟨ρ, ft, R, a, w, k⟩
  simp only [wpE, hk] at w
  refine ⟨ρ, ft, _, a, w, fun xs ρ1 vs H1 fr w1 e1 r n f s => ?_⟩
  intro x dx hx hdx hne
  rw [List.append_nil]
  split at w1
  · rename_i p ss e2 e3
    cases e2
    obtain ⟨nt, hS⟩ := w1
    have ap := apart_of a f
    have a1 := a.next e1
    obtain ⟨fa, h1, h2, h3⟩ := args_env a1 r n ap nt e3
    have st1 : Step [] H1 (upd H1 dx (.own x)) := Step.new hdx
    have hx2 : (upd H1 dx (.own x)) x = none := by rw [upd_ne (Ne.symm hne)]; exact hx
    have st2 : Step [] H1 (upd (upd H1 dx (.own x)) x (.ins (G.cl C) dx [])) := st1.trans (Step.new hx2)
    have nx : x ∉ adsOf fa := fun z => by
      rcases h3 x z with q | q
      · exact a1.env.free hx q
      · obtain ⟨o, ho⟩ := r.known x q
        rw [hx] at ho; cases ho
    refine ⟨x, dx, vs, ss, fa, _, rfl, upd_same, ⟨h1.mono st2 (fun _ _ z => by cases z), h2.nodup a.nd⟩, nx, hS, fun fs ss' H' g hr he hs hself hads hnd hstep => ⟨rfl, ?_⟩⟩
    obtain ⟨hw, hr⟩ := hr
    have a2 : At G σ (upd (upd H1 dx (.own x)) x (.ins (G.cl C) dx [])) ρ1 ft := a1.next (e1.mono st2 (fun _ _ z => by cases z))
    have hstep2 : Step (adsOf fa) H1 H' := st2.mono (fun _ z => by cases z) |>.transN hstep fun y hy => by
      rcases List.mem_cons.mp hy with z | z
      · rw [z]; exact .inr hx
      · exact .inl z
    have env := back_ok a1 h2 nt e3 hstep2 he hw
    have st : Step (adsOf ft) H H' := s.transN hstep2 fun y hy => (h3 y hy).imp id (f y)
    refine k (.obj C fs) _ (.ref x) H' g.ads hr env ⟨g, hs, rfl⟩ hnd (fun y hy => ?_) st
    rcases hads y hy with z | z
    · rw [z]; exact s.back x hx
    · exact s.back y (st2.back y z)
  · exact w1.elim
theorem s_new (W : Wd Γ G lv X) {i : Nat} {C : Cn} {x : Str} {S : ISpec} {p : Pos} (hk : Γ.ini[i]? = some (C, x, S)) (hg : Gl X x) (hd : (x == ("__debug__" : Str)) = false) (ha : PA X (e :: es) (tEs Γ G cs)) (he : starEach (e :: es) X.env = (false, eval e X.env) :: starEach es X.env)
    (hpl : (backTo pos (starEach es X.env)).any (·.1) = false) : PE X (.Call (.Name x p) (e :: es) [] pos) (tE Γ G (.new i cs)) := by
  obtain ⟨f, fd, ps, M, F, hm, hb⟩ := (W.ini _ (List.mem_of_getElem? hk)).ex
  have F' : FnOk X.prog X.w X.K X.mg X.base CX0 lv f fd ps (spI G C S) := by rw [W.K, W.mg]; exact F
  exact (pe_make (by rw [W.K]; exact M) F' W.room hg (by rw [W.mg]; exact hm) (by rw [W.K]; exact hb) .nil pass0 ha hd he hpl).imp (new_imp hk)

/-! ## fields, methods -/
theorem evFld_ok {σ : L2.St} {H : Hp} {ρ : Env} {ft : Fts} {i : Nat} {f : Fn} {x : Ev} (W : Wd Γ G lv X) (a : At G σ H ρ ft) (h : evFld Γ ρ i f = some x) :
    ∃ p C dx gs v, σ[i]? = some (some (.ref p)) ∧ H p = some (.ins (G.cl C) dx gs) ∧ Cls G.K (G.cl C) ∧ NoAttr G.K (G.cl C) f.str ∧ gs.lookup f.str = some v ∧ EvR G H ft x v [] := by
  unfold evFld at h
  cases e : ρ[i]? with
  | none => rw [e] at h; cases h
  | some s =>
    rw [e] at h
    obtain ⟨o, g, h1, h2, r⟩ := a.env.get e
    cases s with
    | non => cases h
    | fd y => cases h
    | ins C fs =>
      obtain ⟨p, dx, gs, e1, e2, h3, h4, h5⟩ := r
      subst e1
      by_cases hc : (Γ.cls.contains C && clsFd C f) = true
      · simp only [hc, if_true] at h
        have hc' := (Bool.and_eq_true _ _).mp hc
        obtain ⟨c1, c2⟩ := W.cls C (by simpa using hc'.1)
        cases e3 : ixOf f fs with
        | none => simp only [e3] at h; cases h
        | some k =>
          simp only [e3] at h
          obtain ⟨y, v, b, g1, g2, g3, g4⟩ := h4.look e3
          simp only [g1] at h
          refine ⟨p, C, dx, gs, v, h1, h3, c1, c2 f hc'.2, g2, ?_⟩
          cases y with
          | val d => cases h; exact ⟨rfl, g4.2⟩
          | lst ds =>
            cases h
            obtain ⟨q, vs, ev, eb, _, _⟩ := g4
            subst ev eb
            exact ⟨rfl, g, q, h2, g3, rfl⟩
      · simp only [Bool.not_eq_true] at hc
        simp only [hc] at h
        cases h
theorem s_fld (W : Wd Γ G lv X) {i : Nat} {x : Str} {f : Fn} {p : Pos} (hN : X.N[i]? = some x) (hv : Vis X.env.scope x) (hd : (x == ("__debug__" : Str)) = false) (hcd : (x == ("__classdict__" : Str)) = false) : PE X (.Attribute (.Name x p) f.str pos) (tE Γ G (.fld i f)) := by
  refine (pe_fld (pe_var hN hv hd hcd) rfl).imp ?_
  rintro σ H Q ⟨ρ, ft, R, a, w, k⟩
  simp only [wpE] at w
  split at w
  · rename_i x e
    obtain ⟨q, C, dx, gs, v, h1, h2, h3, h4, h5, h6⟩ := evFld_ok W a e
    refine ⟨.ref q, h1, q, G.cl C, dx, gs, v, rfl, h2, by rw [W.K]; exact h3, by rw [W.K]; exact h4, h5, ?_⟩
    exact k x ρ v H [] w a.env h6 List.nodup_nil (fun a m => by cases m) (Step.refl _ _)
  · exact w.elim
theorem nolook {H : Hp} : ∀ {gs : List (Str × V)} {fs : List (Fn × Fd)} {fl : List (Option Addr)} {m : Str}, FdsR G H gs fs fl → (∀ f : Fn, f.str ≠ m) → gs.lookup m = none
  | [], [], [], _, _, _ => rfl
  | (n, v) :: gs, (g, x) :: fs, f :: fl, m, ⟨e, _, t⟩, h => by
    have hne : (m == n) = false := by
      rw [e]
      exact beq_eq_false_iff_ne.mpr fun z => h g z.symm
    simp only [List.lookup, hne]
    exact nolook t h
  | [], [], _ :: _, _, h, _ => h.elim
  | [], _ :: _, _, _, h, _ => h.elim
  | _ :: _, [], _, _, h, _ => h.elim
  | (_, _) :: _, (_, _) :: _, [], _, h, _ => h.elim
theorem meth_imp (W : Wd Γ G lv X) {j i : Nat} {C : Cn} {m : Str} {S : Spec} (hk : Γ.met[j]? = some (C, m, S)) : ∀ σ H Q, tE Γ G (.meth j i cs) σ H Q → tMeth (G.cl C) m (spOf G S) [] (fun _ _ _ => False) (tVar i) (tEs Γ G cs) σ H Q := by
  rintro σ H Q ⟨ρ, ft, R, a, w, k⟩
  simp only [wpE, hk] at w
  split at w
  · rename_i C0 fs C' m' S' e1 e2
    cases e2
    obtain ⟨rfl, w⟩ := w
    obtain ⟨o, g, h1, h2, p, dx, gs, eo, es, h3, h4, h5⟩ := a.env.get e1
    subst eo
    have M := W.met _ (List.mem_of_getElem? hk)
    refine ⟨.ref p, h1, p, dx, gs, rfl, h3, nolook h4 M.nf, ?_⟩
    refine ⟨ρ, ft, _, a, w, fun xs ρ1 vs H1 fr w1 e3 r n f s => ?_⟩
    show spOf G S (V.ref p :: (vs ++ [])) H1 Q fun _ _ _ => False
    rw [List.append_nil]
    split at w1
    · rename_i ss e4
      have r' : EvsR G H1 ft (.at_ (.slot i) :: xs) (.ref p :: vs) ([] ++ fr) := .cons ⟨rfl, g, p, h2, es, rfl⟩ r
      obtain ⟨nt, hS⟩ := w1
      obtain ⟨fa, q1, q2, q3⟩ := args_env (a.next e3) r' n (apart_of a f) nt e4
      refine ⟨ss, fa, _, ⟨q1, q2.nodup a.nd⟩, hS, fun r' ss' v H' fr' hr he hf hn hs => ?_⟩
      obtain ⟨hw, hr⟩ := hr
      have hw' : wbOk (.at_ (.slot i) :: xs) ss' := by
        cases ss' with
        | nil => trivial
        | cons y r => exact hw
      have env := back_ok (a.next e3) q2 nt e4 hs he hw'
      have st : Step (adsOf ft) H H' := s.transN hs fun x hx => (q3 x hx).imp id (f x)
      cases r' with
      | val d =>
        obtain ⟨_, rd⟩ := hf
        exact k.val hr env rd st
      | lst ds =>
        obtain ⟨p', vs', ev, ef, hp, rl⟩ := hf
        refine k (.tmp ds) _ v H' [p'] hr env ⟨p', vs', ev, rfl, hp, rl⟩ (by simp) (fun x hx => ?_) st
        have : x = p' := by simpa using hx
        rw [this]
        exact s.back p' (hn p' ef)
    · exact w1.elim
  · exact w.elim
theorem eval_meth {o : Expr} {m : Str} {apos : Pos} {args : List Expr} {env : PySem.Env} (hf : methodCallForm (args.length + 0) (backTo pos (starEach args env)) [] = true) (hl : (apos.endLine == pos.line) = true) (hb : attributeBase o m env (eval o env) = eval o env) :
    eval (.Call (.Attribute o m apos) args [] pos) env = (do
      let ov ← eval o env
      standAt apos.atName
      let (f, first) ← holding [ov] (getMethod ov m (plainOf o env))
      callWith pos f first (backTo pos (starEach args env)) (backToKw pos (keywordEach [] env))) := by
  have e : eval (.Call (.Attribute o m apos) args [] pos) env = (do
      let ov ← attributeBase o m env (eval o env)
      standAt apos.atName
      methodCall o m apos pos env ov (args.length + ([] : List Keyword).length) (backTo pos (starEach args env)) (backToKw pos (keywordEach [] env))) := by
    rfl
  rw [e, hb]
  have e2 : ∀ ov, methodCall o m apos pos env ov (args.length + ([] : List Keyword).length) (backTo pos (starEach args env)) (backToKw pos (keywordEach [] env)) = (do
      let (f, first) ← holding [ov] (getMethod ov m (plainOf o env))
      callWith pos f first (backTo pos (starEach args env)) (backToKw pos (keywordEach [] env))) := fun ov => mcall_line hf hl
  simp only [e2]
theorem s_meth (W : Wd Γ G lv X) {j i : Nat} {C : Cn} {m : Str} {S : Spec} {x : Str} {p apos : Pos} (hk : Γ.met[j]? = some (C, m, S)) (hN : X.N[i]? = some x) (hv : Vis X.env.scope x) (hd : (x == ("__debug__" : Str)) = false) (hcd : (x == ("__classdict__" : Str)) = false)
    (ha : PA X (e :: es) (tEs Γ G cs)) (he : starEach (e :: es) X.env = (false, eval e X.env) :: starEach es X.env) (hpl : (backTo pos (starEach es X.env)).any (·.1) = false) (hl : (apos.endLine == pos.line) = true) (hn : (e :: es).length < 20) :
    PE X (.Call (.Attribute (.Name x p) m apos) (e :: es) [] pos) (tE Γ G (.meth j i cs)) := by
  have M := W.met _ (List.mem_of_getElem? hk)
  obtain ⟨f, fd, ps, c, hm, F, hb⟩ := M.ex
  have F' : FnOk X.prog X.w X.K X.mg X.base CX0 lv f fd ps (spOf G S) := by rw [W.K, W.mg]; exact F
  refine (pe_meth (pe_var hN hv hd hcd) (by rw [W.K]; exact c) (by rw [W.K]; exact hm) F' (W.room.mono (Nat.le_succ _)) (by rw [W.K]; exact hb) .nil pass0 ha he hpl (eval_meth ?_ hl rfl)).imp (meth_imp W hk)
  have h1 : ((backTo pos (starEach (e :: es) X.env)).all (fun x => !x.1)) = true := by
    rw [he]
    show (true && (backTo pos (starEach es X.env)).all (fun x => !x.1)) = true
    rw [Bool.true_and, List.all_eq_true]
    intro y hy
    have := List.any_eq_false.mp hpl y hy
    simpa using this
  unfold methodCallForm
  rw [h1]
  have h3 : (e :: es).length + 0 + 0 < 30 := by omega
  show (true && true && decide ((e :: es).length + 0 + 0 < 30)) = true
  rw [decide_eq_true h3]
  rfl
theorem s_meth0 (W : Wd Γ G lv X) {j i : Nat} {C : Cn} {m : Str} {S : Spec} {x : Str} {p apos : Pos} (hk : Γ.met[j]? = some (C, m, S)) (hN : X.N[i]? = some x) (hv : Vis X.env.scope x) (hd : (x == ("__debug__" : Str)) = false) (hcd : (x == ("__classdict__" : Str)) = false)
    (hl : (apos.endLine == pos.line) = true) : PE X (.Call (.Attribute (.Name x p) m apos) [] [] pos) (tE Γ G (.meth j i .nil)) := by
  have M := W.met _ (List.mem_of_getElem? hk)
  obtain ⟨f, fd, ps, c, hm, F, hb⟩ := M.ex
  have F' : FnOk X.prog X.w X.K X.mg X.base CX0 lv f fd ps (spOf G S) := by rw [W.K, W.mg]; exact F
  refine (pe_meth0 (pe_var hN hv hd hcd) (by rw [W.K]; exact c) (by rw [W.K]; exact hm) F' (W.room.mono (Nat.le_succ _)) (by rw [W.K]; exact hb) .nil pass0 (eval_meth rfl hl rfl)).imp fun σ H Q h => ?_
  obtain ⟨v, h1, p, dx, gs, e1, e2, e3, e4⟩ := meth_imp W hk σ H Q h
  refine ⟨v, h1, p, dx, gs, e1, e2, e3, ?_⟩
  obtain ⟨ρ, ft, R, a, w, k⟩ := e4
  simp only [wpEs] at w
  exact k [] ρ [] H [] w a.env .nil List.nodup_nil (fun a m => by cases m) (Step.refl _ _)
end
end DL

/-! DLh -/
namespace DL
open PySem PySem.Spec PyProof.Rows L2
section
variable {Γ : Gam} {G : Cxt} {lv : Nat} {X : Cx} {pos : Pos} {a b : Expr} {ca cb : E} {cs : Es} {e : Expr} {es : List Expr}

/-! ## built-ins -/
def bifName : Bif → Str
  | .len => "len" | .abs => "abs" | .min => "min" | .max => "max" | .tuple => "tuple" | .list => "list" | .all => "all" | .any => "any" | .int => "int" | .divmod => "divmod"
/-- one argument that is read as a sequence -/
theorem ev1 {H : Hp} {ft : Fts} {x : Ev} {vs : List V} {fr : List Addr} (r : EvsR G H ft [x] vs fr) : ∃ v, vs = [v] ∧ EvR G H ft x v fr := by
  cases r with
  | cons r t => cases t; exact ⟨_, rfl, by rw [List.append_nil]; exact r⟩
theorem ev2 {H : Hp} {ft : Fts} {x y : Ev} {vs : List V} {fr : List Addr} (r : EvsR G H ft [x, y] vs fr) : ∃ v u f1 f2, vs = [v, u] ∧ EvR G H ft x v f1 ∧ EvR G H ft y u f2 := by
  cases r with
  | cons r t => cases t with
    | cons r' t => cases t; exact ⟨_, _, _, _, rfl, r, r'⟩
theorem At.seqC {σ : L2.St} {H : Hp} {ρ : Env} {ft : Fts} (a : At G σ H ρ ft) {e : Ev} {ds : List D} (h : seqOf ρ e = some ds) {v : V} {fr : List Addr} (r : EvR G H ft e v fr) : (∃ q vs, v = .ref q ∧ SqL G.K H q vs ∧ RepL G H vs ds) ∨ Rep G H v (.tup ds) := by
  unfold seqOf at h
  cases e with
  | val d =>
    obtain ⟨_, r⟩ := r
    cases d with
    | tup es =>
      have e3 : es = ds := Option.some.inj h
      subst e3
      exact .inr r
    | lst es =>
      have e3 : es = ds := Option.some.inj h
      subst e3
      cases r with
      | lst e r => exact .inl ⟨_, _, rfl, e.elim (fun ⟨o, z⟩ => .inl (.inr ⟨o, z⟩)) .inr, r⟩
    | _ => cases h
  | tmp es =>
    have e3 : es = ds := Option.some.inj h
    subst e3
    obtain ⟨p, vs, e1, _, h2, h3⟩ := r
    exact .inl ⟨p, vs, e1, SqL.of h2, h3⟩
  | at_ p =>
    simp only [dof] at h
    cases q : lstAt ρ p with
    | none => rw [q] at h; cases h
    | some es =>
      rw [q] at h
      have e3 : es = ds := Option.some.inj h
      subst e3
      obtain ⟨x, vs, e1, _, h2, h3⟩ := a.lst q r
      exact .inl ⟨x, vs, e1, SqL.of h2, h3⟩
  | obj C fs => cases h
theorem s_bif (W : Wd Γ G lv X) (f : Bif) {p : Pos} (hg : Gl X (bifName f)) (ha : PA X (e :: es) (tEs Γ G cs)) (he : starEach (e :: es) X.env = (false, eval e X.env) :: starEach es X.env) (hpl : (backTo pos (starEach es X.env)).any (·.1) = false) :
    PE X (.Call (.Name (bifName f) p) (e :: es) [] pos) (tE Γ G (.bif f cs)) := by
  have B : ∀ (id : String) (r : List V → Hp → VK → Prop), CallR X (.builtin id) r → bootBuiltins (bifName f) = some (.builtin id) → bifName f ∈ bnames → bifName f ≠ "__name__" → (bifName f == ("__debug__" : Str)) = false →
      (∀ (H0 H : Hp) (σ : L2.St) (ρ : Env) (ft : Fts) (R : QE) (Q : VK) (xs : List Ev) (vs : List V) (fr : List Addr), At G σ H ρ ft → Step (adsOf ft) H0 H → wpBif f ρ xs R → EvsR G H ft xs vs fr → Fin G σ ft H0 R Q → r vs H Q) →
      PE X (.Call (.Name (bifName f) p) (e :: es) [] pos) (tE Γ G (.bif f cs)) := fun id r hc hv hb hn hd h =>
    (pe_callB hc hg (W.blt' hb) hv ha hn hd he hpl).imp (args' (K := fun xs ρ R => wpBif f ρ xs R) (fun ρ R w => by simpa only [wpE] using w) fun H0 H σ ρ ft R Q xs vs fr a s w r n fr ap k => h H0 H σ ρ ft R Q xs vs _ a s w r k)
  have T : ∀ (id : String) (r : List V → Hp → VK → Prop), CallR X (.type id) r → bootBuiltins (bifName f) = some (.type id) → bifName f ∈ bnames → bifName f ≠ "__name__" → (bifName f == ("__debug__" : Str)) = false →
      (∀ (H0 H : Hp) (σ : L2.St) (ρ : Env) (ft : Fts) (R : QE) (Q : VK) (xs : List Ev) (vs : List V) (fr : List Addr), At G σ H ρ ft → Step (adsOf ft) H0 H → wpBif f ρ xs R → EvsR G H ft xs vs fr → Fin G σ ft H0 R Q → r vs H Q) →
      PE X (.Call (.Name (bifName f) p) (e :: es) [] pos) (tE Γ G (.bif f cs)) := fun id r hc hv hb hn hd h =>
    (pe_callTy hc hg (W.blt' hb) hv ha hn hd he hpl).imp (args' (K := fun xs ρ R => wpBif f ρ xs R) (fun ρ R w => by simpa only [wpE] using w) fun H0 H σ ρ ft R Q xs vs fr a s w r n fr ap k => h H0 H σ ρ ft R Q xs vs _ a s w r k)
  cases f with
  | len =>
    refine B "len" _ call_len_seq PySem.boot_len (by decide +kernel) (by decide +kernel) (by decide +kernel) fun H0 H σ ρ ft R Q xs vs fr a s w r k => ?_
    unfold wpBif at w
    split at w <;> first | exact w.elim | contradiction | skip
    rename_i x _
    obtain ⟨v, rfl, r1⟩ := ev1 r
    split at w
    · rename_i ds e1
      obtain ⟨q, vs', rfl, sq, rl⟩ := a.seqE e1 r1
      refine ⟨q, vs', rfl, by rw [W.K]; exact sq, ?_⟩
      rw [rl.length]
      exact k.val w a.env (.int _) s
    · exact w.elim
  | abs =>
    refine B "abs" _ call_abs boot_abs (by decide +kernel) (by decide +kernel) (by decide +kernel) fun H0 H σ ρ ft R Q xs vs fr a s w r k => ?_
    unfold wpBif at w
    split at w <;> first | exact w.elim | contradiction | skip
    rename_i i _
    obtain ⟨v, rfl, r1⟩ := ev1 r
    refine ⟨i, by rw [rep_int r1.2], ?_⟩
    have e1 : (if i < 0 then -i else i) = (i.natAbs : Int) := by split <;> omega
    rw [e1]
    exact k.val w a.env (.int _) s
  | min =>
    refine B "min" _ (call_min2 W.calm) boot_min (by decide +kernel) (by decide +kernel) (by decide +kernel) fun H0 H σ ρ ft R Q xs vs fr a s w r k => ?_
    unfold wpBif at w
    split at w <;> first | exact w.elim | contradiction | skip
    rename_i i j _
    obtain ⟨v, u, f1, f2, rfl, r1, r2⟩ := ev2 r
    refine ⟨i, j, by rw [rep_int r1.2, rep_int r2.2], ?_⟩
    have e1 : (if j < i then j else i) = min i j := by split <;> omega
    rw [e1]
    exact k.val w a.env (.int _) s
  | max =>
    refine B "max" _ (call_max2 W.calm) boot_max (by decide +kernel) (by decide +kernel) (by decide +kernel) fun H0 H σ ρ ft R Q xs vs fr a s w r k => ?_
    unfold wpBif at w
    split at w <;> first | exact w.elim | contradiction | skip
    rename_i i j _
    obtain ⟨v, u, f1, f2, rfl, r1, r2⟩ := ev2 r
    refine ⟨i, j, by rw [rep_int r1.2, rep_int r2.2], ?_⟩
    have e1 : (if j > i then j else i) = max i j := by split <;> omega
    rw [e1]
    exact k.val w a.env (.int _) s
  | tuple =>
    refine T "tuple" _ call_tuple_of PyProof.Rows.boot_tuple (by decide +kernel) (by decide +kernel) (by decide +kernel) fun H0 H σ ρ ft R Q xs vs fr a s w r k => ?_
    unfold wpBif at w
    split at w <;> first | exact w.elim | contradiction | skip
    rename_i x _
    obtain ⟨v, rfl, r1⟩ := ev1 r
    split at w
    · rename_i ds e1
      rcases a.seqC e1 r1 with ⟨q, vs', rfl, sq, rl⟩ | rt
      · exact ⟨q, vs', rfl, .inl ⟨by rw [W.K]; exact sq, fun l hl => k.newT w a.env rl s hl⟩⟩
      · have fin : Q v H := k.val w a.env rt s
        cases rt with
        | tup h1 h2 => exact ⟨_, _, rfl, .inr ⟨by rw [W.K]; exact h1.elim (fun z => .inl (.inl z)) .inr, fin⟩⟩
    · exact w.elim
  | list =>
    refine T "list" _ call_list_of PyProof.Rows.boot_list (by decide +kernel) (by decide +kernel) (by decide +kernel) fun H0 H σ ρ ft R Q xs vs fr a s w r k => ?_
    unfold wpBif at w
    split at w <;> first | exact w.elim | contradiction | skip
    rename_i x _
    obtain ⟨v, rfl, r1⟩ := ev1 r
    split at w
    · rename_i ds e1
      obtain ⟨q, vs', rfl, sq, rl⟩ := a.seqE e1 r1
      exact ⟨q, vs', rfl, by rw [W.K]; exact sq, fun l hl => k.newL w a.env rl s hl⟩
    · exact w.elim
  | all =>
    refine B "all" _ (cr_all W.calm) boot_all (by decide +kernel) (by decide +kernel) (by decide +kernel) fun H0 H σ ρ ft R Q xs vs fr a s w r k => ?_
    unfold wpBif at w
    split at w <;> first | exact w.elim | contradiction | skip
    rename_i x _
    obtain ⟨v, rfl, r1⟩ := ev1 r
    split at w
    · rename_i ds e1
      obtain ⟨bs, rfl, w⟩ := w
      obtain ⟨q, vs', rfl, sq, rl⟩ := a.lstE e1 r1
      have ev := rep_bls rl
      subst ev
      exact ⟨q, bs, rfl, SqL.of sq, k.val w a.env (.bl _) s⟩
    · exact w.elim
  | any =>
    refine B "any" _ (cr_any W.calm) boot_any (by decide +kernel) (by decide +kernel) (by decide +kernel) fun H0 H σ ρ ft R Q xs vs fr a s w r k => ?_
    unfold wpBif at w
    split at w <;> first | exact w.elim | contradiction | skip
    rename_i x _
    obtain ⟨v, rfl, r1⟩ := ev1 r
    split at w
    · rename_i ds e1
      obtain ⟨bs, rfl, w⟩ := w
      obtain ⟨q, vs', rfl, sq, rl⟩ := a.lstE e1 r1
      have ev := rep_bls rl
      subst ev
      exact ⟨q, bs, rfl, SqL.of sq, k.val w a.env (.bl _) s⟩
    · exact w.elim
  | int =>
    refine T "int" _ call_int1 PyProof.Rows.boot_int (by decide +kernel) (by decide +kernel) (by decide +kernel) fun H0 H σ ρ ft R Q xs vs fr a s w r k => ?_
    unfold wpBif at w
    split at w <;> first | exact w.elim | contradiction | skip
    rename_i i _
    obtain ⟨v, rfl, r1⟩ := ev1 r
    exact .inr ⟨i, by rw [rep_bl r1.2], k.val w a.env (.int _) s⟩
  | divmod =>
    refine B "divmod" _ call_divmod boot_divmod (by decide +kernel) (by decide +kernel) (by decide +kernel) fun H0 H σ ρ ft R Q xs vs fr a s w r k => ?_
    unfold wpBif at w
    split at w <;> first | exact w.elim | contradiction | skip
    rename_i i j _
    obtain ⟨v, u, f1, f2, rfl, r1, r2⟩ := ev2 r
    refine ⟨i, j, by rw [rep_int r1.2, rep_int r2.2], w.1, fun p hp => ?_⟩
    exact k.newT w.2 a.env (.cons (.int _) (.cons (.int _) .nil)) s hp

/-! ## isinstance -/
def tyName : Ty → Str
  | .int => "int" | .bool => "bool" | .tuple => "tuple" | .str => "str"
def tyStr : Ty → String
  | .int => "int" | .bool => "bool" | .tuple => "tuple" | .str => "str"
theorem ty_boot (t : Ty) : bootBuiltins (tyName t) = some (.type (tyStr t)) := by cases t <;> decide +kernel
def tyOfD : D → String
  | .non => "NoneType" | .bl _ => "bool" | .int _ => "int" | .str _ => "str" | .tup _ => "tuple" | _ => "list"
theorem kit_D (d : D) (h : isVal d = true) (t : Ty) : kitB (tyOfD d) (tyStr t) = some (isiD d t) := by
  cases d with
  | lst _ => cases h
  | fn _ => cases h
  | non => cases t <;> (show kitB "NoneType" _ = some false; decide +kernel)
  | bl b =>
    cases t with
    | int => show kitB "bool" "int" = some true; decide +kernel
    | bool => show kitB "bool" "bool" = some true; decide +kernel
    | tuple => show kitB "bool" "tuple" = some false; decide +kernel
    | str => show kitB "bool" "str" = some false; decide +kernel
  | int i =>
    cases t with
    | int => show kitB "int" "int" = some true; decide +kernel
    | bool => show kitB "int" "bool" = some false; decide +kernel
    | tuple => show kitB "int" "tuple" = some false; decide +kernel
    | str => show kitB "int" "str" = some false; decide +kernel
  | str i =>
    cases t with
    | int => show kitB "str" "int" = some false; decide +kernel
    | bool => show kitB "str" "bool" = some false; decide +kernel
    | tuple => show kitB "str" "tuple" = some false; decide +kernel
    | str => show kitB "str" "str" = some true; decide +kernel
  | tup i =>
    cases t with
    | int => show kitB "tuple" "int" = some false; decide +kernel
    | bool => show kitB "tuple" "bool" = some false; decide +kernel
    | tuple => show kitB "tuple" "tuple" = some true; decide +kernel
    | str => show kitB "tuple" "str" = some false; decide +kernel
theorem tyX_of {H : Hp} {v : V} {d : D} (h : isVal d = true) (r : Rep G H v d) : TyX G.K H v (.type (tyOfD d)) := by
  cases r with
  | non => exact .base .non
  | bl b => exact .base (.bl b)
  | int i => exact .base (.int i)
  | str s => exact .base (.str s)
  | tup h1 _ =>
    rcases h1 with z | ⟨o, its, n, z1, z2, _⟩
    · exact .base (.tup z)
    · exact .kTuple z1 z2
  | lst _ _ => cases h
  | fn _ => cases h
theorem isi_imp (W : Wd Γ G lv X) {t : Ty} : ∀ (σ : L2.St) (H : Hp) (Q : VK), tE Γ G (.isi ca t) σ H Q → tCB (rIsi X.K) (tCons (tE Γ G ca) (tCons (tC (.ty (tyStr t))) tNil)) σ H Q := by
  rintro σ H Q ⟨ρ, ft, R, a, w, k⟩
  simp only [wpE] at w
  refine ⟨ρ, ft, _, a, w, fun x ρ1 v H1 f1 w1 e1 r1 n1 fr1 s1 => ?_⟩
  unfold wpIsi at w1
  split at w1
  · rename_i d
    obtain ⟨hv, w1⟩ := w1
    refine ⟨v, .ty (tyStr t), .type (tyOfD d), .type (tyStr t), isiD d t, rfl, .ty _, ?_, kit_ty (kit_D d hv t), k.val w1 e1 (.bl _) s1⟩
    rw [W.K]
    exact tyX_of hv r1.2
  · exact w1.elim
theorem s_isi (W : Wd Γ G lv X) (t : Ty) {p p2 : Pos} (hg : Gl X "isinstance") (hg2 : Gl X (tyName t)) (ha : PE X a (tE Γ G ca)) (he : starEach (a :: [.Name (tyName t) p2]) X.env = (false, eval a X.env) :: starEach [.Name (tyName t) p2] X.env) :
    PE X (.Call (.Name "isinstance" p) [a, .Name (tyName t) p2] [] pos) (tE Γ G (.isi ca t)) := by
  have hb : tyName t ∈ bnames := by cases t <;> decide +kernel
  have hn : tyName t ≠ "__name__" := by cases t <;> decide +kernel
  have hd : (tyName t == ("__debug__" : Str)) = false := by cases t <;> decide +kernel
  have h2 : PE X (.Name (tyName t) p2) (tC (.ty (tyStr t))) := pe_bltn hg2 (W.blt' hb) (ty_boot t) rfl hn hd
  have h3 : PA X [a, .Name (tyName t) p2] (tCons (tE Γ G ca) (tCons (tC (.ty (tyStr t))) tNil)) := pa_cons ha (pa_cons h2 pa_nil rfl) he
  exact (pe_callB call_isi hg (W.blt' (by decide +kernel)) PyProof.Rows.boot_isinstance h3 (by decide +kernel) (by decide +kernel) he rfl).imp (isi_imp W)

/-! ## methods of lists -/
def lmName : LM → Str
  | .append => "append" | .pop => "pop" | .insert => "insert" | .extend => "extend"
def toE : Pn → E
  | .var i => .var i
  | .fld i f => .fld i f
theorem plOf_ok {ρ : Env} {p : Pn} {pl : Pl} (h : plOf Γ ρ p = some pl) : (∃ ds, lstAt ρ pl = some ds) ∧ ∀ R : QE, R (.at_ pl) ρ → wpE Γ (toE p) ρ R := by
  have key : ∀ o : Option Ev, lstPl ρ o = some pl → (∃ ds, lstAt ρ pl = some ds) ∧ o = some (.at_ pl) := fun o h => by
    unfold lstPl at h
    split at h
    · split at h
      · cases h
        exact ⟨⟨_, by assumption⟩, rfl⟩
      · cases h
    · cases h
  cases p with
  | var i =>
    obtain ⟨h1, h2⟩ := key _ h
    refine ⟨h1, fun R r => ?_⟩
    simp only [toE, wpE, h2]
    exact r
  | fld i f =>
    obtain ⟨h1, h2⟩ := key _ h
    refine ⟨h1, fun R r => ?_⟩
    simp only [toE, wpE, h2]
    exact r
/-- a list at a place is changed -/
theorem set_env {σ : L2.St} {H : Hp} {ρ : Env} {ft : Fts} (a : At G σ H ρ ft) {pl : Pl} {ds ds' : List D} {q : Addr} {vs vs' : List V} (h : lstAt ρ pl = some ds) (r : EvR G H ft (.at_ pl) (.ref q) []) (hq : H q = some (.lst vs)) (rl : RepL G H vs' ds') :
    EnvR G (upd H q (.lst vs')) σ (setAt ρ pl (.lst ds')) ft ∧ Step (adsOf ft) H (upd H q (.lst vs')) := by
  have hm : q ∈ adsOf ft := by
    obtain ⟨q', vs0, e, m, _⟩ := a.lst h r
    cases e; exact m
  have st : Step [q] H (upd H q (.lst vs')) := Step.lst hq (by simp)
  refine ⟨?_, Step.lst hq hm⟩
  have rl' := rl.mono st
  cases pl with
  | slot i =>
    obtain ⟨_, f, p, hf, hs, e⟩ := r
    cases e
    have hfl : f.fl = [] := by
      simp only [lstAt] at h
      cases e : ρ[i]? with
      | none => simp only [e] at h; cases h
      | some s =>
        obtain ⟨o, f', h1, h2, r2⟩ := a.env.get e
        rw [hf] at h2; cases h2
        simp only [e] at h
        cases s with
        | non => cases h
        | ins C fs => cases h
        | fd x => exact r2.choose_spec.2.2
    have ef : f = ftL q := by
      cases f
      simp only at hs hfl
      rw [hs, hfl]; rfl
    subst ef
    have e0 : slsOf ρ [.at_ (.slot i)] = some [.fd (.lst ds)] := by
      have : slOf ρ (.at_ (.slot i)) = some (.fd (.lst ds)) := by
        simp only [lstAt] at h
        cases e : ρ[i]? with
        | none => simp only [e] at h; cases h
        | some s =>
          simp only [e] at h
          cases s with
          | non => cases h
          | ins C fs => cases h
          | fd x => cases x with
            | val d => cases h
            | lst es => cases h; simp only [slOf, e]
      simp only [slsOf, this]
    exact back_ok (vs := [.ref q]) (fa := [ftL q]) (ss' := [.fd (.lst ds')]) a (.slot hf hs (by simp [touch]) .nil) (by simp [touch]) e0 (st.mono fun x hx => by simpa [adsOf, ads_L] using hx) ⟨⟨.ref q, rfl, ⟨q, vs', rfl, rfl, upd_same, rl'⟩, rfl⟩, trivial⟩ trivial
  | fld i k =>
    obtain ⟨_, f, p, hf, hs, e⟩ := r
    cases e
    have e0 : slsOf ρ [.at_ (.fld i k)] = some [.fd (.lst ds)] := by
      have : slOf ρ (.at_ (.fld i k)) = some (.fd (.lst ds)) := by
        show (match lstAt ρ (.fld i k) with
          | some ds => some (Sl.fd (.lst ds))
          | none => none) = _
        rw [h]
      simp only [slsOf, this]
    exact back_ok (vs := [.ref q]) (fa := [ftL q]) (ss' := [.fd (.lst ds')]) a (.fld hf hs (by simp [touch]) .nil) (by simp [touch]) e0 (st.mono fun x hx => by simpa [adsOf, ads_L] using hx) ⟨⟨.ref q, rfl, ⟨q, vs', rfl, rfl, upd_same, rl'⟩, rfl⟩, trivial⟩ trivial
theorem lm_imp (W : Wd Γ G lv X) {p : Pn} {m : LM} {r : V → List V → Hp → VK → Prop} (hr : ∀ (H0 H : Hp) (σ : L2.St) (ρ : Env) (ft : Fts) (R : QE) (Q : VK) (pl : Pl) (v : V) (xs : List Ev) (vs : List V) (fr : List Addr), At G σ H ρ ft → Step (adsOf ft) H0 H → wpLm pl m ρ xs R → EvR G H ft (.at_ pl) v [] → EvsR G H ft xs vs fr → Fin G σ ft H0 R Q → r v vs H Q) :
    ∀ (σ : L2.St) (H : Hp) (Q : VK), tE Γ G (.lm p m cs) σ H Q → tBM X.K "list" r (tE Γ G (toE p)) (tEs Γ G cs) σ H Q := by
  rintro σ H Q ⟨ρ, ft, R, a, w, k⟩
  simp only [wpE] at w
  split at w
  · rename_i pl e
    obtain ⟨⟨ds, h1⟩, h2⟩ := plOf_ok e
    refine ⟨ρ, ft, fun ev ρ' => ev = .at_ pl ∧ ρ' = ρ, a, h2 _ ⟨rfl, rfl⟩, fun ev ρ' v H1 f1 hr1 e1 r1 n1 fr1 s1 => ?_⟩
    obtain ⟨rfl, rfl⟩ := hr1
    have a1 := a.next e1
    have hf1 : f1 = [] := by cases pl <;> exact r1.1
    subst hf1
    obtain ⟨q, vs0, rfl, _, hq, _⟩ := a1.lst h1 r1
    refine ⟨.inl ⟨rfl, vs0, SqL.of hq⟩, ?_⟩
    refine ⟨ρ', ft, _, a1, w, fun xs ρ2 vs H2 fr w2 e2 r2 n2 fr2 s2 => ?_⟩
    exact hr H H2 σ ρ2 ft R Q pl (.ref q) xs vs fr (a1.next e2) (s1.trans s2) w2 (r1.mono s2 fun _ z => by cases z) r2 k
  · exact w.elim
theorem s_lm (W : Wd Γ G lv X) {o : Expr} (p : Pn) (m : LM) {apos : Pos} (ho : PE X o (tE Γ G (toE p))) (ha : PA X (e :: es) (tEs Γ G cs)) (hbase : attributeBase o (lmName m) X.env (eval o X.env) = eval o X.env)
    (hfew : ((backTo pos (starEach (e :: es) X.env)).all (fun x => !x.1) && (backToKw pos (keywordEach [] X.env)).all (fun x => x.1.isSome)
      && decide ((e :: es).length + ([] : List Keyword).length + (if ([] : List Keyword).isEmpty then 0 else 1) < 30)) = true)
    (hline : (apos.endLine == pos.line) = true) (hs : starEach (e :: es) X.env = (false, eval e X.env) :: starEach es X.env) (hplain : (backTo pos (starEach es X.env)).any (·.1) = false) :
    PE X (.Call (.Attribute o (lmName m) apos) (e :: es) [] pos) (tE Γ G (.lm p m cs)) := by
  cases m with
  | append =>
    refine (pe_bm PySem.F.plainAttrs_list PySem.F.slot_list_append PySem.F.type_list_append mt_append ho ha hbase hfew hline hs hplain).imp (lm_imp W fun H0 H σ ρ ft R Q pl v xs vs fr a s w r1 r2 k => ?_)
    unfold wpLm at w
    split at w
    · rename_i ds h
      split at w <;> first | exact w.elim | contradiction | skip
      rename_i d _
      obtain ⟨x, rfl, r3⟩ := ev1 r2
      obtain ⟨q, vs0, rfl, _, hq, rl⟩ := a.lst h r1
      obtain ⟨e1, s1⟩ := set_env (ds' := ds ++ [d]) a h r1 hq (rl.append (.one r3.2))
      exact ⟨q, vs0, x, rfl, rfl, hq, sz5' (by rw [rl.length]; exact w.1), k.val w.2 e1 .non (s.trans s1)⟩
    · exact w.elim
  | pop =>
    refine (pe_bm PySem.F.plainAttrs_list PySem.F.slot_list_pop PySem.F.type_list_pop mt_popAt ho ha hbase hfew hline hs hplain).imp (lm_imp W fun H0 H σ ρ ft R Q pl v xs vs fr a s w r1 r2 k => ?_)
    unfold wpLm at w
    split at w
    · rename_i ds h
      split at w <;> first | exact w.elim | contradiction | skip
      rename_i i _
      obtain ⟨x, rfl, r3⟩ := ev1 r2
      obtain ⟨q, vs0, rfl, _, hq, rl⟩ := a.lst h r1
      obtain ⟨⟨w1, w2⟩, d, hd, w3⟩ := w
      obtain ⟨y, hy, ry⟩ := rl.get hd
      obtain ⟨e1, s1⟩ := set_env (ds' := ds.eraseIdx i.toNat) a h r1 hq (rl.eraseIdx i.toNat)
      have hi : i.toNat < ds.length := (List.getElem?_eq_some_iff.mp hd).1
      have hx : ixN vs0.length i = some i.toNat := by
        unfold ixN
        rw [if_pos w1, if_pos (by rw [rl.length]; omega)]
      exact ⟨q, vs0, i, i.toNat, y, rfl, by rw [rep_int r3.2], hq, by omega, by omega, (ixN_seq hx).1, hy, k.val w3 e1 (ry.mono s1) (s.trans s1)⟩
    · exact w.elim
  | insert =>
    refine (pe_bm PySem.F.plainAttrs_list PySem.F.slot_list_insert PySem.F.type_list_insert mt_insert ho ha hbase hfew hline hs hplain).imp (lm_imp W fun H0 H σ ρ ft R Q pl v xs vs fr a s w r1 r2 k => ?_)
    unfold wpLm at w
    split at w
    · rename_i ds h
      split at w <;> first | exact w.elim | contradiction | skip
      rename_i i d _
      obtain ⟨x, y, f1, f2, rfl, r3, r4⟩ := ev2 r2
      obtain ⟨q, vs0, rfl, _, hq, rl⟩ := a.lst h r1
      obtain ⟨⟨w1, w2, w3⟩, w4⟩ := w
      obtain ⟨e1, s1⟩ := set_env (ds' := ds.take i.toNat ++ d :: ds.drop i.toNat) a h r1 hq ((rl.take i.toNat).append (.cons r4.2 (rl.drop i.toNat)))
      refine ⟨q, vs0, i, y, rfl, by rw [rep_int r3.2], hq, sz5' (by rw [rl.length]; exact w3), w1, by omega, ?_⟩
      rw [List.append_assoc]
      exact k.val w4 e1 .non (s.trans s1)
    · exact w.elim
  | extend =>
    refine (pe_bm PySem.F.plainAttrs_list PySem.F.slot_list_extend PySem.F.type_list_extend mt_extend ho ha hbase hfew hline hs hplain).imp (lm_imp W fun H0 H σ ρ ft R Q pl v xs vs fr a s w r1 r2 k => ?_)
    unfold wpLm at w
    split at w
    · rename_i ds h
      split at w <;> first | exact w.elim | contradiction | skip
      rename_i es' _
      obtain ⟨x, rfl, r3⟩ := ev1 r2
      obtain ⟨q, vs0, rfl, _, hq, rl⟩ := a.lst h r1
      obtain ⟨p', vs1, rfl, _, hp', rl'⟩ := r3
      obtain ⟨e1, s1⟩ := set_env (ds' := ds ++ es') a h r1 hq (rl.append rl')
      refine ⟨q, p', vs0, vs1, rfl, rfl, hq, hp', sz5 (by rw [rl.length, rl'.length]; omega), k.val w.2 e1 .non (s.trans s1)⟩
    · exact w.elim
end
end DL

/-! DLi -/
/-! enumerate over a tuple -/
namespace PySem
open Sem (wp)
open AutoSeq1 (wpAny_loadPart')
theorem meets_enum_newTup (l : Addr) (items : Array Value) (n : Nat) (dct : Option Addr) (sl : Array (Option Value)) :
    Meets (Builtin.«enumerate.__new__» ⟨[.type "enumerate", .ref l], []⟩) (fun _ R s => s.heap.get? l = some { cls := .type "tuple", dict := dct, data := .seq items n, slots := sl } ∧
      R (.ok (.ret (.ref (s.heap.push { cls := .type "tuple_iterator", data := .fields #[.ref l, .int 0 0] }).objs.size)))
        { s with heap := (s.heap.push { cls := .type "tuple_iterator", data := .fields #[.ref l, .int 0 0] }).push { cls := .type "enumerate", data := .fields #[.none, .bool false, .ref s.heap.objs.size, rawInt 0, .none, .none] } }) :=
  .of_wp fun prog w A R s h => by
    obtain ⟨hp, g, d, tk, os⟩ := s; obtain ⟨hl, h⟩ := h
    have hsub := sub_enumerate
    have hL : Heap.IsTuple (Shared.heap ⟨hp, g, d, tk, os⟩) l items := ⟨_, hl, rfl, n, rfl⟩
    wp_walk using wpAny_loadPart' hl
    refine wpAny_stack_any fun st => wpAny_pure ?_
    split
    · rename_i c _ _ _ _ _
      cases (c == Value.type "enumerate")
      · wp_walk using wpAny_loadPart' hl, wpAny_pyIter_tuple hL
        exact ⟨_, rfl, h⟩
      · wp_walk using wpAny_loadPart' hl, wpAny_pyIter_tuple hL
        exact ⟨_, rfl, h⟩
    · wp_walk using wpAny_loadPart' hl, wpAny_pyIter_tuple hL
      exact ⟨_, rfl, h⟩
theorem call_enum_tuple {prog : Program} {w : World} {A : Around} {E : Value → Shared → Prop} {s : Shared} {l : Addr} {items : Array Value} {Q : Value → Shared → Prop} (hL : s.heap.IsTuple l items)
    (h : ∀ h', IsEnum h' (s.heap.objs.size + 1) s.heap.objs.size 0 .none → h'.IsTupleIter s.heap.objs.size l 0 → h'.objs.size = s.heap.objs.size + 2 →
      (∀ b o, s.heap.get? b = some o → h'.get? b = some o) → Q (.ref (s.heap.objs.size + 1)) { s with heap := h' }) :
    wpAny (model prog w) A (call (.type "enumerate") [.ref l]) Q E s := by
  obtain ⟨⟨c, dct, dt, sl⟩, hl, hc, n, hd⟩ := hL
  replace hc : c = .type "tuple" := hc
  replace hd : dt = .seq items n := hd
  subst hc hd
  refine callType_new F.called_enumerate (by decide) (F.typeCall_enumerate_1 _) (F.newCall_enumerate_1 _) (fun obj => F.args_object_init_2 obj _) F.entry_enumerate_new
    (meets_enum_newTup l items n dct sl) ⟨hl, ?_⟩
  have hz : (s.heap.push { cls := .type "tuple_iterator", data := .fields #[.ref l, .int 0 0] }).objs.size = s.heap.objs.size + 1 := Heap.size_push ..
  show _ ∧ _
  rw [hz]
  have he : IsEnum ((s.heap.push { cls := .type "tuple_iterator", data := .fields #[.ref l, .int 0 0] }).push
      { cls := .type "enumerate", data := .fields #[.none, .bool false, .ref s.heap.objs.size, rawInt 0, .none, .none] }) (s.heap.objs.size + 1) s.heap.objs.size 0 .none := by
    have := Heap.get?_push_size (s.heap.push { cls := .type "tuple_iterator", data := .fields #[.ref l, .int 0 0] })
      (o := { cls := .type "enumerate", data := .fields #[.none, .bool false, .ref s.heap.objs.size, rawInt 0, .none, .none] }) rfl
    rw [hz] at this; exact this
  refine ⟨⟨_, he, rfl⟩, h _ he ⟨_, Heap.get?_push_of_some _ (Heap.get?_push_size _ rfl), rfl, rfl⟩ (by rw [Heap.size_push, hz]) fun b o x => Heap.get?_push_of_some _ (Heap.get?_push_of_some _ x)⟩
end PySem
namespace DL
open PySem PySem.Spec PyProof.Rows L2
/-- the tuple at a, each item in a new pair with its number -/
def IteT (K : PySem.W.Frag) (a : Addr) : L2.It :=
  ⟨fun i H => ∃ (xs : List V) (x : V), SqT K H a xs ∧ xs[i]? = some x, fun i H v H' => ∃ T x, v = .ref T ∧ H T = none ∧ H' = upd H T (.tup [.int (i : Nat), x]) ∧ ∀ xs, SqT K H a xs → xs[i]? = some x, fun i H => ∃ xs : List V, SqT K H a xs ∧ xs.length ≤ i⟩
theorem turn_enT {P : Program} {w : World} {K : PySem.W.Frag} {elts : List Expr} {kk : Nat} {tpos : Pos} (a e it : Addr) :
    Turn P w K (.Tuple elts kk tpos) (IteT K a) [e, it] e (fun i h => (∃ old, IsEnum h e it ((i : Nat) : Int) old) ∧ h.IsTupleIter it a i ∧ e ≠ it ∧ e ≠ a ∧ a ≠ it) where
  mem := by simp
  obj := fun i h st b hb => by
    obtain ⟨⟨old, he⟩, ⟨o, ho, hc, hd⟩, _⟩ := st
    have e' : b = e ∨ b = it := by simpa using hb
    rcases e' with z | z
    · rw [z]; exact ⟨_, he, fun v q => nomatch q⟩
    · rw [z]; exact ⟨o, ho, fun v q => by rw [hd] at q; cases q⟩
  keep := fun i h h' st k => let ⟨⟨old, he⟩, hi, hne⟩ := st; ⟨⟨old, k e (by simp) _ he⟩, hi.at fun o q => k it (by simp) o q, hne⟩
  item := by
    intro X hP hw hK hc i pins s σ H E I hf st hg
    subst hP hw hK
    obtain ⟨⟨old, he⟩, hit, hne, hna, han⟩ := st
    obtain ⟨xs, x, hq, hx⟩ := hg
    obtain ⟨its, rv, p, hz⟩ := I.tuple hq
    obtain ⟨u, hu, ru⟩ := rv.get hx
    have hel : e < s.heap.objs.size := Heap.lt_size he
    have hil : it < s.heap.objs.size := by obtain ⟨_, q, _⟩ := hit; exact Heap.lt_size q
    have hil2 : i < its.toArray.size := by
      have := (List.getElem?_eq_some_iff.mp hu).1
      simpa using this
    refine wpAny_pyNext_enum_itemD (Draws.tuple (A := X.A.in1) (show X.A.in1.handled = none from I.ok.hd hc) it a han its.toArray) he ⟨hit, p⟩ hil2 hne (by simp [hne, hna]) fun y h' tk hy ho hit' hT hsz hk => ?_
    have ey : y = u := by
      have h1 : its.toArray[i]? = some u := by simpa using hu
      rw [h1] at hy
      exact (Option.some.inj hy).symm
    subst ey
    refine ⟨_, rfl, wpAny_letOwnedTupleGo_enum (s := { s with heap := h', toks := tk + 1 }) ho fun h'' he' sb => ?_⟩
    have hT2 : h''.get? s.heap.objs.size = some { cls := .type "tuple", data := .seq #[.int i tk, y] } := (sb.2 _ (Nat.ne_of_gt hel)).trans hT
    have new : ObjOk X.prog X.w (upd H s.heap.objs.size (.tup [.int (i : Nat), x])) h'' s.heap.objs.size (.tup [.int (i : Nat), x]) :=
      ⟨by show 2 ≤ sizeLine; decide, [.int i tk, y], .cons ⟨_, rfl⟩ (.cons ru .nil), ⟨_, hT2, rfl, _, rfl⟩⟩
    have I1 : L2.Inv X pins σ (upd H s.heap.objs.size (.tup [.int (i : Nat), x])) { s with heap := h'', toks := tk + 1 } :=
      I.turnedNew (ch := [e, it]) (fun b ob hb q => (sb.2 b (fun z => hb (by simp [z]))).trans (hk b ob (fun z => hb (by simp [z])) (fun z => hb (by simp [z])) q)) hf (Nat.le_refl _) new
    refine ⟨.ref s.heap.objs.size, _, I1, rfl, ⟨_, x, rfl, I.hok.fresh (Nat.le_refl _), rfl, fun ys hy => by rw [I.tuple_inj hy hq]; exact hx⟩, ⟨⟨y, ?_⟩, hit'.1.at fun o q => (sb.2 it (Ne.symm hne)).trans q, hne, hna, han⟩, fun b hb => ?_⟩
    · have e1 : ((i + 1 : Nat) : Int) = (i : Int) + 1 := by omega
      rw [e1]; exact he'
    · have hb' : b < s.heap.objs.size := by
        have e' : b = e ∨ b = it := by simpa using hb
        rcases e' with z | z
        · rw [z]; exact hel
        · rw [z]; exact hil
      rw [upd_ne (Nat.ne_of_lt hb')]
      exact (hf b hb).1
  done := by
    intro X hP hw hK hc i pins s σ H E I hf st hg
    subst hP hw hK
    obtain ⟨⟨old, he⟩, hit, hne, hna, han⟩ := st
    obtain ⟨xs, hq, hx⟩ := hg
    obtain ⟨its, rv, p, hz⟩ := I.tuple hq
    obtain ⟨f0, f1, f2, f3, f4, f5⟩ := hf it (by simp)
    have hl := rv.length
    have hT : s.TypeIs (.ref e) "enumerate" := ⟨_, he, rfl⟩
    unfold pyNext
    refine wpAny_bind (wpAny_attempt (wpAny_callSpecial?_slot (name := Str.ofString "__next__") hT F.slot_enumerate_next
      (wpAny_call_entry F.slot_enumerate_next hT F.entry_enumerate_next ?_ (F.args_enumerate_next_1 _))))
    show wpAny _ _ (field (.ref e) 2 >>= _) _ _ _
    refine wpAny_bind (wpAny_field he rfl (x := .ref it) rfl ?_)
    refine wpAny_bind (wpAny_nextOf_tuple_end (show X.A.in1.handled = none from I.ok.hd hc) hit (show s.heap.IsTuple a its.toArray from p) (by simp; omega) fun h' x he' hx' => ?_)
    obtain ⟨o, ho, hc⟩ := hx'
    refine wpAny_bind (wpAny_isInstance (T := "StopIteration") (b := true) ⟨o, ho, hc⟩ isSubtype_stop ?_)
    exact wpAny_pure ⟨rfl, I.turned (t' := s.toks) (fun b o hb q => he' b o hb q) f0 f1 f3 f4 f5⟩
  self := fun A i s Q E st h => let ⟨⟨_, he⟩, _⟩ := st; wpAny_pyIter_enum he h
def iEnT (K : PySem.W.Frag) (ta : TA) : TI := fun σ H R => ta σ H fun vs H1 => ∃ a xs, vs = [.ref a] ∧ SqT K H1 a xs ∧ R (IteT K a) H1
theorem pi_enT {X : Cx} {e : Expr} {ta : TA} {p pos tpos : Pos} {elts : List Expr} {kk : Nat} (hg : Gl X "enumerate") (hm : X.mg "enumerate" = none) (ha : PA X [e] ta) (hs : starEach [e] X.env = [(false, eval e X.env)]) :
    PI X (.Tuple elts kk tpos) (.Call (.Name "enumerate" p) [e] [] pos) (iEnT X.K ta) := by
  refine ⟨fun pins s σ H R I h => ?_⟩
  refine Call_ (ld_blt I hg hm boot_enumerate (PyProof.Rows.callWith_type1 (thn (ha.run pos pins s σ H _ I h) fun us s1 ⟨vs, H1, I1, r1, q1⟩ => ?_) hs rfl))
  obtain ⟨a, xs, ex, hq, q⟩ := q1
  subst ex
  cases r1 with
  | cons r rr =>
    cases rr
    cases r
    obtain ⟨its, rv, p', hz⟩ := I1.tuple hq
    refine call_enum_tuple (show s1.heap.IsTuple a its.toArray from p') fun h' he hit hsz hk => wpAny_pyIter_enum he ?_
    have I2 : L2.Inv X pins σ H1 { s1 with heap := h' } := I1.kept (t' := s1.toks) hk
    have al : a < s1.heap.objs.size := p'.lt
    refine ⟨s1.heap.objs.size + 1, [s1.heap.objs.size + 1, s1.heap.objs.size], _, _, H1, rfl, I2, turn_enT a (s1.heap.objs.size + 1) s1.heap.objs.size, ⟨⟨.none, he⟩, hit, Nat.succ_ne_self _, Nat.ne_of_gt (Nat.lt_succ_of_lt al), Nat.ne_of_lt al⟩, fun b hb => ?_, q⟩
    have e' : b = s1.heap.objs.size + 1 ∨ b = s1.heap.objs.size := by simpa using hb
    have hle : s1.heap.objs.size ≤ b := by
      rcases e' with z | z
      · rw [z]; exact Nat.le_add_right _ _
      · rw [z]; exact Nat.le_refl _
    exact I1.fpOk hle (I1.hok.fresh hle)
/-- a list or a tuple -/
def iSeq (K : PySem.W.Frag) (tl : TE) : TI := fun σ H R => tl σ H fun x H1 => ∃ a, x = .ref a ∧ (((∃ xs, SqL K H1 a xs) ∧ R (Itl K a) H1) ∨ ((∃ xs, SqT K H1 a xs) ∧ R (Itt K a) H1))
theorem pi_seq {X : Cx} {tg l : Expr} {tl : TE} (hl : PE X l tl) : PI X tg l (iSeq X.K tl) := by
  refine ⟨fun pins s σ H R I h => ?_⟩
  refine thn (hl.run pins s σ H _ I h) fun v s1 ⟨x, H1, I1, r1, q1⟩ => ?_
  obtain ⟨a, e, q⟩ := q1
  subst e
  cases r1
  have fin : ∀ b ∈ [s1.heap.objs.size], FpOk X pins H1 b := fun b hb => by
    have e : b = s1.heap.objs.size := by simpa using hb
    subst e
    exact I1.fpOk (Nat.le_refl _) (I1.hok.fresh (Nat.le_refl _))
  rcases q with ⟨⟨xs, hq⟩, q⟩ | ⟨⟨xs, hq⟩, q⟩
  · obtain ⟨its, rv, p, hz⟩ := I1.list hq
    refine wpAny_pyIter_list p.isList ?_
    exact ⟨s1.heap.objs.size, [s1.heap.objs.size], _, _, H1, rfl, I1.kept (t' := s1.toks) fun b o e => Heap.get?_push_of_some _ e, turn_list a _, ⟨_, Heap.get?_push_size _ rfl, rfl, rfl⟩, fin, q⟩
  · obtain ⟨its, rv, p, hz⟩ := I1.tuple hq
    refine wpAny_pyIter_tuple (show s1.heap.IsTuple a its.toArray from p) ?_
    exact ⟨s1.heap.objs.size, [s1.heap.objs.size], _, _, H1, rfl, I1.kept (t' := s1.toks) fun b o e => Heap.get?_push_of_some _ e, turn_tuple a _, ⟨_, Heap.get?_push_size _ rfl, rfl, rfl⟩, fin, q⟩
end DL

/-! DLj -/
namespace DL
open PySem PySem.Spec PyProof.Rows L2

/-! ## what is walked -/
def addrOf (ft : Fts) : Pl → Option Addr
  | .slot i => (ft[i]?).bind Ft.self
  | .fld i k => (ft[i]?).bind fun f => (f.fl[k]?).bind id
def stillR (G : Cxt) (H : Hp) (ft : Fts) (pls : List (Pl × List D)) : Prop := ∀ q ∈ pls, ∃ p vs, addrOf ft q.1 = some p ∧ H p = some (.lst vs) ∧ RepL G H vs q.2
/-- nothing but a new object -/
def New1 (H H' : Hp) : Prop := H' = H ∨ ∃ T o, H T = none ∧ H' = upd H T o
theorem New1.step {F : List Addr} {H H' : Hp} (h : New1 H H') : Step F H H' := by
  rcases h with rfl | ⟨T, o, h, rfl⟩
  · exact Step.refl _ _
  · exact Step.new h
structure ItOk (G : Cxt) (ft : Fts) (H1 : Hp) (its : Items) (J : L2.It) : Prop where
  go : ∀ (i : Nat) (d : D) (H2 : Hp), Step (adsOf ft) H1 H2 → stillR G H2 ft its.pls → its.ds[i]? = some d → J.go i H2 ∧ ∀ x H3, J.yld i H2 x H3 → Rep G H3 x d ∧ New1 H2 H3
  stop : ∀ (H2 : Hp), Step (adsOf ft) H1 H2 → stillR G H2 ft its.pls → J.stop its.ds.length H2
def tIt (Γ : Gam) (G : Cxt) (c : It) : TI := fun σ H Q => ∃ ρ ft, ∃ R : Items → Env → Prop, At G σ H ρ ft ∧ wpIt Γ c ρ R ∧
  ∀ its ρ' H' J, R its ρ' → EnvR G H' σ ρ' ft → Step (adsOf ft) H H' → ItOk G ft H' its J → Q J H'
section
variable {Γ : Gam} {G : Cxt} {lv : Nat} {X : Cx} {pos : Pos} {a b : Expr} {ca cb : E} {σ : L2.St} {H : Hp} {ρ : Env} {ft : Fts}
theorem addr_ev {pl : Pl} {v : V} {fr : List Addr} (r : EvR G H ft (.at_ pl) v fr) : ∃ p, addrOf ft pl = some p ∧ v = .ref p := by
  cases pl with
  | slot i =>
    obtain ⟨_, f, p, h1, h2, h3⟩ := r
    exact ⟨p, by simp [addrOf, h1, h2], h3⟩
  | fld i k =>
    obtain ⟨_, f, p, h1, h2, h3⟩ := r
    exact ⟨p, by simp [addrOf, h1, h2], h3⟩
theorem ev_addr (a : At G σ H ρ ft) {pl : Pl} {ds : List D} (h : lstAt ρ pl = some ds) : ∃ p, EvR G H ft (.at_ pl) (.ref p) [] := by
  cases pl with
  | slot i =>
    simp only [lstAt] at h
    cases e : ρ[i]? with
    | none => simp only [e] at h; cases h
    | some s =>
      obtain ⟨o, f, h1, h2, r⟩ := a.env.get e
      simp only [e] at h
      cases s with
      | non => cases h
      | ins C fs => cases h
      | fd x => cases x with
        | val d => cases h
        | lst l =>
          obtain ⟨v, _, ⟨p, vs, _, e2, _⟩, _⟩ := r
          exact ⟨p, rfl, f, p, h2, e2, rfl⟩
  | fld i k =>
    simp only [lstAt] at h
    cases e : ρ[i]? with
    | none => simp only [e] at h; cases h
    | some s =>
      obtain ⟨o, f, h1, h2, r⟩ := a.env.get e
      simp only [e] at h
      cases s with
      | non => cases h
      | fd _ => cases h
      | ins C fs =>
        cases e5 : fs[k]? with
        | none => simp only [e5] at h; cases h
        | some w =>
          obtain ⟨n, w⟩ := w
          cases w with
          | val d => simp only [e5] at h; cases h
          | lst l =>
            obtain ⟨p, dx, gs, _, _, _, h4, _⟩ := r
            obtain ⟨v, b, _, hb, q, vs, _, e6, _⟩ := h4.at_ e5
            subst e6
            exact ⟨q, rfl, f, q, h2, hb, rfl⟩
theorem stillR_of (a : At G σ H ρ ft) {pls : List (Pl × List D)} (h : still pls ρ) : stillR G H ft pls := fun q hq => by
  have h1 := h q hq
  obtain ⟨p, r⟩ := ev_addr a h1
  obtain ⟨p', vs, e, _, h2, h3⟩ := a.lst h1 r
  cases e
  obtain ⟨p2, e1, e2⟩ := addr_ev r
  cases e2
  exact ⟨p, vs, e1, h2, h3⟩
theorem rep_of_get {G : Cxt} {H : Hp} {vs : List V} {ds : List D} (r : RepL G H vs ds) {i : Nat} {d : D} {x : V} (h1 : ds[i]? = some d) (h2 : vs[i]? = some x) : Rep G H x d := by
  obtain ⟨v, e, rv⟩ := r.get h1
  rw [h2] at e; cases e
  exact rv
/-- a list that stands -/
theorem it_list {K : PySem.W.Frag} (hK : K = G.K) {its : Items} {p : Addr} {H1 : Hp} (h : ∀ H2, Step (adsOf ft) H1 H2 → stillR G H2 ft its.pls → ∃ vs, SqL K H2 p vs ∧ RepL G H2 vs its.ds) : ItOk G ft H1 its (Itl K p) where
  go := fun i d H2 s st hd => by
    obtain ⟨vs, h1, h2⟩ := h H2 s st
    obtain ⟨x, hx, _⟩ := h2.get hd
    refine ⟨⟨vs, x, h1, hx⟩, fun y H3 hy => ?_⟩
    obtain ⟨rfl, hy⟩ := hy
    exact ⟨rep_of_get h2 hd (hy vs h1), .inl rfl⟩
  stop := fun H2 s st => by
    obtain ⟨vs, h1, h2⟩ := h H2 s st
    exact ⟨vs, h1, by rw [h2.length]; exact Nat.le_refl _⟩
theorem it_tup {K : PySem.W.Frag} {its : Items} {p : Addr} {H1 : Hp} (h : ∀ H2, Step (adsOf ft) H1 H2 → ∃ vs, SqT K H2 p vs ∧ RepL G H2 vs its.ds) : ItOk G ft H1 its (Itt K p) where
  go := fun i d H2 s st hd => by
    obtain ⟨vs, h1, h2⟩ := h H2 s
    obtain ⟨x, hx, _⟩ := h2.get hd
    refine ⟨⟨vs, x, h1, hx⟩, fun y H3 hy => ?_⟩
    obtain ⟨rfl, hy⟩ := hy
    exact ⟨rep_of_get h2 hd (hy vs h1), .inl rfl⟩
  stop := fun H2 s st => by
    obtain ⟨vs, h1, h2⟩ := h H2 s
    exact ⟨vs, h1, by rw [h2.length]; exact Nat.le_refl _⟩
theorem sqT_of {q : Addr} {vs : List V} (h : H q = some (.tup vs) ∨ KT G.K q vs) : SqT G.K H q vs := h.elim (fun z => .inl (.inl z)) .inr
/-- a value that is a tuple, later on -/
theorem tup_later {v : V} {ds : List D} (r : Rep G H v (.tup ds)) : ∃ q, v = .ref q ∧ (∃ vs, SqT G.K H q vs) ∧ ∀ F H2, Step F H H2 → ∃ vs, SqT G.K H2 q vs ∧ RepL G H2 vs ds := by
  cases r with
  | tup h1 h2 =>
    refine ⟨_, rfl, ⟨_, sqT_of h1⟩, fun F H2 s => ?_⟩
    cases (Rep.tup h1 h2 : Rep G H _ (.tup ds)).mono s with
    | tup h3 h4 => exact ⟨_, sqT_of h3, h4⟩
/-- a list, later on -/
theorem lst_later (a : At G σ H ρ ft) {e : Ev} {ds : List D} (h : dof ρ e = some (.lst ds)) {v : V} {fr : List Addr} (r : EvR G H ft e v fr) (ap : ∀ x ∈ fr, x ∉ adsOf ft) : ∃ q, v = .ref q ∧ (∃ vs, SqL G.K H q vs) ∧ ∀ H2, Step (adsOf ft) H H2 → stillR G H2 ft (heldAt ρ e) → ∃ vs, SqL G.K H2 q vs ∧ RepL G H2 vs ds := by
  cases e with
  | val d =>
    cases h
    obtain ⟨_, r⟩ := r
    cases r with
    | lst h1 h2 =>
      refine ⟨_, rfl, ⟨_, h1.elim (fun ⟨o, z⟩ => .inl (.inr ⟨o, z⟩)) .inr⟩, fun H2 s _ => ?_⟩
      cases (Rep.lst h1 h2 : Rep G H _ (.lst ds)).mono s with
      | lst h3 h4 => exact ⟨_, h3.elim (fun ⟨o, z⟩ => .inl (.inr ⟨o, z⟩)) .inr, h4⟩
  | tmp es =>
    cases h
    obtain ⟨p, vs, rfl, rfl, h2, h3⟩ := r
    exact ⟨p, rfl, ⟨vs, SqL.of h2⟩, fun H2 s _ => ⟨vs, SqL.of (s.keep _ _ h2 (ap p (by simp))), h3.mono s⟩⟩
  | at_ pl =>
    simp only [dof] at h
    cases z : lstAt ρ pl with
    | none => simp only [z] at h; cases h
    | some es =>
      simp only [z] at h
      cases h
      obtain ⟨p, vs, rfl, _, h2, h3⟩ := a.lst z r
      refine ⟨p, rfl, ⟨vs, SqL.of h2⟩, fun H2 s st => ?_⟩
      obtain ⟨p', vs', e1, e2, e3⟩ := st (pl, ds) (by simp [heldAt, z])
      obtain ⟨p2, e4, e5⟩ := addr_ev r
      cases e5
      rw [e4] at e1; cases e1
      exact ⟨vs', SqL.of e2, e3⟩
  | obj C fs => cases h
theorem s_seq (W : Wd Γ G lv X) {tg : Expr} (ha : PE X a (tE Γ G ca)) : PI X tg a (tIt Γ G (.seq ca)) := by
  refine (pi_seq ha).imp ?_
  rintro σ H Q ⟨ρ, ft, R, a, w, k⟩
  simp only [wpIt] at w
  refine ⟨ρ, ft, _, a, w, fun x ρ1 v H1 f1 w1 e1 r1 n1 fr1 s1 => ?_⟩
  have a1 := a.next e1
  have ap := apart_of a fr1
  split at w1
  · rename_i ds e
    cases hd : dof ρ1 x with
    | none => unfold seqOf at e; rw [hd] at e; cases e
    | some y =>
      unfold seqOf at e
      rw [hd] at e
      cases y with
      | tup es =>
        cases e
        have hv : x = .val (.tup ds) := by
          cases x with
          | val d => cases hd; rfl
          | tmp _ => cases hd
          | at_ p => simp only [dof] at hd; split at hd <;> cases hd
          | obj _ _ => cases hd
        subst hv
        obtain ⟨q, rfl, ⟨vs, sq⟩, later⟩ := tup_later r1.2
        exact ⟨q, rfl, .inr ⟨⟨vs, by rw [W.K]; exact sq⟩, k _ ρ1 H1 _ w1 e1 s1 (by rw [W.K]; exact it_tup fun H2 s => later _ H2 s)⟩⟩
      | lst es =>
        cases e
        obtain ⟨q, rfl, ⟨vs, sq⟩, later⟩ := lst_later a1 hd r1 ap
        exact ⟨q, rfl, .inl ⟨⟨vs, by rw [W.K]; exact sq⟩, k _ ρ1 H1 _ w1 e1 s1 (by rw [W.K]; exact it_list rfl fun H2 s st => later H2 s st)⟩⟩
      | _ => cases e
  · exact w1.elim
theorem it_range {i : Int} {n : Nat} {H1 : Hp} : ItOk G ft H1 ⟨intsL i n, []⟩ (Itr i n) where
  go := fun j d H2 s st hd => by
    have hl : j < n := by
      have := (List.getElem?_eq_some_iff.mp hd).1
      simpa [intsL] using this
    have ed : d = .int (i + (j : Int)) := by
      have hd' : (intsL i n)[j]? = some d := hd
      unfold intsL at hd'
      rw [List.getElem?_map, List.getElem?_range hl] at hd'
      exact (Option.some.inj hd').symm
    refine ⟨hl, fun x H3 hy => ?_⟩
    obtain ⟨rfl, rfl⟩ := hy
    subst ed
    exact ⟨.int _, .inl rfl⟩
  stop := fun H2 s st => by
    show n ≤ (intsL i n).length
    simp [intsL]
theorem s_r1 (W : Wd Γ G lv X) {tg : Expr} {p : Pos} (hg : Gl X "range") (ha : PE X a (tE Γ G ca)) (hs : starEach [a] X.env = [(false, eval a X.env)]) : PI X tg (.Call (.Name "range" p) [a] [] pos) (tIt Γ G (.r1 ca)) := by
  refine (pi_range1 hg (W.blt' (by decide +kernel)) (pa_cons ha pa_nil hs) hs).imp ?_
  rintro σ H Q ⟨ρ, ft, R, a, w, k⟩
  simp only [wpIt] at w
  refine ⟨ρ, ft, _, a, w, fun x ρ1 v H1 f1 w1 e1 r1 n1 fr1 s1 => ?_⟩
  split at w1
  · rename_i i
    refine ⟨i, by rw [rep_int r1.2], by omega, by omega, k _ ρ1 H1 _ w1.2 e1 s1 it_range⟩
  · exact w1.elim
theorem s_r2 (W : Wd Γ G lv X) {tg : Expr} {p : Pos} (hg : Gl X "range") (ha : PE X a (tE Γ G ca)) (hb : PE X b (tE Γ G cb)) (hs : starEach [a, b] X.env = [(false, eval a X.env), (false, eval b X.env)]) (hs2 : starEach [b] X.env = [(false, eval b X.env)]) : PI X tg (.Call (.Name "range" p) [a, b] [] pos) (tIt Γ G (.r2 ca cb)) := by
  refine (pi_range2 hg (W.blt' (by decide +kernel)) (pa_cons ha (pa_cons hb pa_nil hs2) (by rw [hs, hs2])) hs hs2).imp ?_
  rintro σ H Q ⟨ρ, ft, R, a, w, k⟩
  simp only [wpIt] at w
  refine ⟨ρ, ft, _, a, w, fun x ρ1 v H1 f1 w1 e1 r1 n1 fr1 s1 => ?_⟩
  refine ⟨ρ1, ft, _, a.next e1, w1, fun y ρ2 u H2 f2 w2 e2 r2 n2 fr2 s2 => ?_⟩
  split at w2
  · rename_i i j
    refine ⟨i, j, by rw [rep_int r1.2, rep_int r2.2], by omega, k _ ρ2 H2 _ w2.2 e2 (s1.trans s2) it_range⟩
  · exact w2.elim
theorem it_rangeC {i c : Int} {n : Nat} {H1 : Hp} : ItOk G ft H1 ⟨intsC i c n, []⟩ (Itc i c n) where
  go := fun j d H2 s st hd => by
    have hl : j < n := by
      have := (List.getElem?_eq_some_iff.mp hd).1
      simpa [intsC] using this
    have ed : d = .int (i + (j : Int) * c) := by
      have hd' : (intsC i c n)[j]? = some d := hd
      unfold intsC at hd'
      rw [List.getElem?_map, List.getElem?_range hl] at hd'
      exact (Option.some.inj hd').symm
    refine ⟨hl, fun x H3 hy => ?_⟩
    obtain ⟨rfl, rfl⟩ := hy
    subst ed
    exact ⟨.int _, .inl rfl⟩
  stop := fun H2 s st => by
    show n ≤ (intsC i c n).length
    simp [intsC]
theorem s_r3 (W : Wd Γ G lv X) {tg c : Expr} {cc : E} {p : Pos} (hg : Gl X "range") (ha : PE X a (tE Γ G ca)) (hb : PE X b (tE Γ G cb)) (hc : PE X c (tE Γ G cc)) (hs : starEach [a, b, c] X.env = (false, eval a X.env) :: starEach [b, c] X.env) (hs1 : starEach [b, c] X.env = (false, eval b X.env) :: starEach [c] X.env) (hs2 : starEach [c] X.env = [(false, eval c X.env)])
    (hpl : (backTo pos (starEach [b, c] X.env)).any (·.1) = false) : PI X tg (.Call (.Name "range" p) [a, b, c] [] pos) (tIt Γ G (.r3 ca cb cc)) := by
  refine (pi_range3 hg (W.blt' (by decide +kernel)) (pa_cons ha (pa_cons hb (pa_cons hc pa_nil hs2) hs1) hs) hs hpl).imp ?_
  rintro σ H Q ⟨ρ, ft, R, a, w, k⟩
  simp only [wpIt] at w
  refine ⟨ρ, ft, _, a, w, fun x ρ1 v H1 f1 w1 e1 r1 n1 fr1 s1 => ?_⟩
  refine ⟨ρ1, ft, _, a.next e1, w1, fun y ρ2 u H2 f2 w2 e2 r2 n2 fr2 s2 => ?_⟩
  refine ⟨ρ2, ft, _, a.next e2, w2, fun z ρ3 t H3 f3 w3 e3 r3 n3 fr3 s3 => ?_⟩
  split at w3
  · rename_i i j l
    obtain ⟨n, hn, w3⟩ := w3
    refine ⟨i, j, l, n, by rw [rep_int r1.2, rep_int r2.2, rep_int r3.2], hn, k _ ρ3 H3 _ w3 e3 ((s1.trans s2).trans s3) it_rangeC⟩
  · exact w3.elim
theorem pairs_get : ∀ {xs ys : List D} {i : Nat} {d : D}, (pairs xs ys)[i]? = some d → ∃ x y, xs[i]? = some x ∧ ys[i]? = some y ∧ d = .tup [x, y]
  | x :: xs, y :: ys, 0, d, h => by
    simp [pairs] at h
    exact ⟨x, y, rfl, rfl, h.symm⟩
  | x :: xs, y :: ys, i + 1, d, h => by
    obtain ⟨a, b, h1, h2, h3⟩ := pairs_get (i := i) (d := d) (by simpa [pairs] using h)
    exact ⟨a, b, by simpa using h1, by simpa using h2, h3⟩
  | [], _, i, d, h => by simp [pairs] at h
  | _ :: _, [], i, d, h => by simp [pairs] at h
theorem pairs_length : ∀ (xs ys : List D), (pairs xs ys).length = min xs.length ys.length
  | x :: xs, y :: ys => by simp [pairs, pairs_length xs ys]
  | [], _ => by simp [pairs]
  | _ :: _, [] => by simp [pairs]
theorem s_zip (W : Wd Γ G lv X) {p tpos : Pos} {elts : List Expr} {kk : Nat} (hg : Gl X "zip") (ha : PE X a (tE Γ G ca)) (hb : PE X b (tE Γ G cb)) (hs : starEach [a, b] X.env = (false, eval a X.env) :: starEach [b] X.env) (hs2 : starEach [b] X.env = [(false, eval b X.env)]) :
    PI X (.Tuple elts kk tpos) (.Call (.Name "zip" p) [a, b] [] pos) (tIt Γ G (.zip ca cb)) := by
  refine (RZ.pi_zipA hg (W.blt' (by decide +kernel)) (pa_cons ha (pa_cons hb pa_nil hs2) hs) hs (by rw [hs2]; rfl)).imp ?_
  rintro σ H Q ⟨ρ, ft, R, a, w, k⟩
  simp only [wpIt] at w
  refine ⟨ρ, ft, _, a, w, fun x ρ1 v H1 f1 w1 e1 r1 n1 fr1 s1 => ?_⟩
  refine ⟨ρ1, ft, _, a.next e1, w1, fun y ρ2 u H2 f2 w2 e2 r2 n2 fr2 s2 => ?_⟩
  have a2 := a.next e2
  have r1' := r1.mono s2 (apart_of a fr1)
  have isv : ∀ {z : Ev} {ds : List D}, dof ρ2 z = some (.tup ds) → z = .val (.tup ds) := fun {z ds} h => by
    cases z with
    | val d => cases h; rfl
    | tmp _ => cases h
    | at_ p => simp only [dof] at h; split at h <;> cases h
    | obj _ _ => cases h
  split at w2
  · rename_i ds es h1 h2
    have q1 := isv h1
    have q2 := isv h2
    subst q1 q2
    obtain ⟨p1, rfl, ⟨v1, t1⟩, l1⟩ := tup_later r1'.2
    obtain ⟨p2, rfl, ⟨v2, t2⟩, l2⟩ := tup_later r2.2
    refine ⟨p1, p2, v1, v2, rfl, .inr ⟨by rw [W.K]; exact t1, by rw [W.K]; exact t2, k _ ρ2 H2 _ w2 e2 (s1.trans s2) ⟨fun i d H3 s st hd => ?_, fun H3 s st => ?_⟩⟩⟩
    · obtain ⟨x, y, g1, g2, rfl⟩ := pairs_get hd
      obtain ⟨vs1, m1, m2⟩ := l1 _ H3 s
      obtain ⟨vs2, m3, m4⟩ := l2 _ H3 s
      obtain ⟨b1, c1, c2⟩ := m2.get g1
      obtain ⟨b2, c3, c4⟩ := m4.get g2
      refine ⟨⟨vs1, vs2, b1, b2, by rw [W.K]; exact m1, by rw [W.K]; exact m3, c1, c3⟩, fun z H4 hz => ?_⟩
      obtain ⟨T, x', y', rfl, hT, rfl, f1', f2'⟩ := hz
      have i1 := f1' vs1 (by rw [W.K]; exact m1)
      have i2 := f2' vs2 (by rw [W.K]; exact m3)
      rw [c1] at i1; rw [c3] at i2; cases i1; cases i2
      have sN : Step [] H3 (upd H3 T (.tup [b1, b2])) := Step.new hT
      exact ⟨.tup (.inl upd_same) (.cons (c2.mono sN) (.cons (c4.mono sN) .nil)), .inr ⟨T, _, hT, rfl⟩⟩
    · obtain ⟨vs1, m1, m2⟩ := l1 _ H3 s
      obtain ⟨vs2, m3, m4⟩ := l2 _ H3 s
      refine ⟨vs1, vs2, by rw [W.K]; exact m1, by rw [W.K]; exact m3, ?_⟩
      show vs1.length ≤ (pairs ds es).length ∨ vs2.length ≤ (pairs ds es).length
      rw [pairs_length, m2.length, m4.length]
      omega
  · rename_i ds es h1 h2
    obtain ⟨p1, rfl, ⟨v1, t1⟩, l1⟩ := lst_later a2 h1 r1' (apart_of a fr1)
    obtain ⟨p2, rfl, ⟨v2, t2⟩, l2⟩ := lst_later a2 h2 r2 (apart_of (a.next e1) fr2)
    refine ⟨p1, p2, v1, v2, rfl, .inl ⟨by rw [W.K]; exact t1, by rw [W.K]; exact t2, k _ ρ2 H2 _ w2 e2 (s1.trans s2) ⟨fun i d H3 s st hd => ?_, fun H3 s st => ?_⟩⟩⟩
    · obtain ⟨x, y, g1, g2, rfl⟩ := pairs_get hd
      obtain ⟨vs1, m1, m2⟩ := l1 H3 s fun q hq => st q (List.mem_append_left _ hq)
      obtain ⟨vs2, m3, m4⟩ := l2 H3 s fun q hq => st q (List.mem_append_right _ hq)
      obtain ⟨b1, c1, c2⟩ := m2.get g1
      obtain ⟨b2, c3, c4⟩ := m4.get g2
      refine ⟨⟨vs1, vs2, b1, b2, by rw [W.K]; exact m1, by rw [W.K]; exact m3, c1, c3⟩, fun z H4 hz => ?_⟩
      obtain ⟨T, x', y', rfl, hT, rfl, f1', f2'⟩ := hz
      have i1 := f1' vs1 (by rw [W.K]; exact m1)
      have i2 := f2' vs2 (by rw [W.K]; exact m3)
      rw [c1] at i1; rw [c3] at i2; cases i1; cases i2
      have sN : Step [] H3 (upd H3 T (.tup [b1, b2])) := Step.new hT
      exact ⟨.tup (.inl upd_same) (.cons (c2.mono sN) (.cons (c4.mono sN) .nil)), .inr ⟨T, _, hT, rfl⟩⟩
    · obtain ⟨vs1, m1, m2⟩ := l1 H3 s fun q hq => st q (List.mem_append_left _ hq)
      obtain ⟨vs2, m3, m4⟩ := l2 H3 s fun q hq => st q (List.mem_append_right _ hq)
      refine ⟨vs1, vs2, by rw [W.K]; exact m1, by rw [W.K]; exact m3, ?_⟩
      show vs1.length ≤ (pairs ds es).length ∨ vs2.length ≤ (pairs ds es).length
      rw [pairs_length, m2.length, m4.length]
      omega
  · exact w2.elim
theorem repL_of {H : Hp} : ∀ {vs : List V} {ds : List D}, vs.length = ds.length → (∀ (i : Nat) (v : V) (d : D), vs[i]? = some v → ds[i]? = some d → Rep G H v d) → RepL G H vs ds
  | [], [], _, _ => .nil
  | [], _ :: _, h, _ => by simp at h
  | _ :: _, [], h, _ => by simp at h
  | v :: vs, d :: ds, h, r => .cons (r 0 v d rfl rfl) (repL_of (by simpa using h) fun i v' d' h1 h2 => r (i + 1) v' d' (by simpa using h1) (by simpa using h2))
theorem s_lzip (W : Wd Γ G lv X) {p p2 pos pos2 : Pos} (hg : Gl X "list") (hg2 : Gl X "zip") (ha : PE X a (tE Γ G ca)) (hb : PE X b (tE Γ G cb)) (hs : starEach [a, b] X.env = (false, eval a X.env) :: starEach [b] X.env) (hs2 : starEach [b] X.env = [(false, eval b X.env)]) :
    PE X (.Call (.Name "list" p) [.Call (.Name "zip" p2) [a, b] [] pos2] [] pos) (tE Γ G (.lzip ca cb)) := by
  refine (pe_listZip W.calm hg (W.blt' (by decide +kernel)) hg2 (W.blt' (by decide +kernel)) (pa_cons ha (pa_cons hb pa_nil hs2) hs) hs (by rw [hs2]; rfl)).imp ?_
  rintro σ H Q ⟨ρ, ft, R, a, w, k⟩
  simp only [wpE] at w
  refine ⟨ρ, ft, _, a, w, fun x ρ1 v H1 f1 w1 e1 r1 n1 fr1 s1 => ?_⟩
  refine ⟨ρ1, ft, _, a.next e1, w1, fun y ρ2 u H2 f2 w2 e2 r2 n2 fr2 s2 => ?_⟩
  have a2 := a.next e2
  have r1' := r1.mono s2 (apart_of a fr1)
  split at w2
  · rename_i ds es h1 h2
    obtain ⟨p1, vs1, rfl, hp1, rp1⟩ := a2.lstE h1 r1'
    obtain ⟨p2, vs2, rfl, hp2, rp2⟩ := a2.lstE h2 r2
    refine ⟨p1, p2, vs1, vs2, rfl, .inl (.inl hp1), .inl (.inl hp2), by rw [rp1.length, rp2.length]; exact w2.1, fun H3 S Ts hS hl h3 hk hn hG => ?_⟩
    have st : Step [] H2 H3 := ⟨fun a o h _ => hk a o h, fun a vs h => hk a _ h, fun a o u h => hk a _ h, hn⟩
    have rs : RepL G H3 (Ts.map V.ref) (pairs ds es) := by
      have len : Ts.length = (pairs ds es).length := by rw [hl, pairs_length, rp1.length, rp2.length]
      refine repL_of (by rw [List.length_map]; exact len) fun i v d hv hd => ?_
      obtain ⟨x, y, g1, g2, rfl⟩ := pairs_get hd
      rw [List.getElem?_map] at hv
      obtain ⟨T, hT, rfl⟩ := Option.map_eq_some_iff.mp hv
      obtain ⟨vx, vy, q1, q2, q3⟩ := hG i T hT
      obtain ⟨b1, c1, c2⟩ := rp1.get g1
      obtain ⟨b2, c3, c4⟩ := rp2.get g2
      rw [c1] at q1; rw [c3] at q2; cases q1; cases q2
      exact .tup (.inl q3) (.cons (c2.mono st) (.cons (c4.mono st) .nil))
    have e3 : EnvR G H3 σ ρ2 ft := e2.mono st fun _ _ h => by cases h
    exact k (.tmp (pairs ds es)) ρ2 (.ref S) H3 [S] w2.2 e3 ⟨S, _, rfl, rfl, h3, rs⟩ (by simp) (fun q hq => by
      have e : q = S := by simpa using hq
      subst e
      cases z : H q with
      | none => rfl
      | some o =>
        obtain ⟨o', z1⟩ := s1.some z
        obtain ⟨o'', z2⟩ := s2.some z1
        rw [hS] at z2; cases z2) ((s1.trans s2).trans (st.mono fun _ h => by cases h))
  · exact w2.elim
theorem numbered_get : ∀ {xs : List D} {k i : Nat} {d : D}, (numbered k xs)[i]? = some d → ∃ x, xs[i]? = some x ∧ d = .tup [.int ((k + i : Nat) : Int), x]
  | x :: xs, k, 0, d, h => by
    simp [numbered] at h
    exact ⟨x, rfl, h.symm⟩
  | x :: xs, k, i + 1, d, h => by
    obtain ⟨a, h1, h2⟩ := numbered_get (xs := xs) (k := k + 1) (i := i) (d := d) (by simpa [numbered] using h)
    exact ⟨a, by simpa using h1, by rw [h2, show k + 1 + i = k + (i + 1) by omega]⟩
  | [], k, i, d, h => by simp [numbered] at h
theorem numbered_length : ∀ (xs : List D) (k : Nat), (numbered k xs).length = xs.length
  | [], _ => rfl
  | x :: xs, k => by simp [numbered, numbered_length xs (k + 1)]
theorem s_enu (W : Wd Γ G lv X) {p tpos : Pos} {elts : List Expr} {kk : Nat} (hg : Gl X "enumerate") (ha : PE X a (tE Γ G ca)) (hs : starEach [a] X.env = [(false, eval a X.env)]) :
    PI X (.Tuple elts kk tpos) (.Call (.Name "enumerate" p) [a] [] pos) (tIt Γ G (.enu ca)) := by
  refine (pi_enT hg (W.blt' (by decide +kernel)) (pa_cons ha pa_nil hs) hs).imp ?_
  rintro σ H Q ⟨ρ, ft, R, a, w, k⟩
  simp only [wpIt] at w
  refine ⟨ρ, ft, _, a, w, fun x ρ1 v H1 f1 w1 e1 r1 n1 fr1 s1 => ?_⟩
  split at w1
  · rename_i ds h1
    have q1 : x = .val (.tup ds) := by
      cases x with
      | val d => cases h1; rfl
      | tmp _ => cases h1
      | at_ p => simp only [dof] at h1; split at h1 <;> cases h1
      | obj _ _ => cases h1
    subst q1
    obtain ⟨p1, rfl, ⟨v1, t1⟩, l1⟩ := tup_later r1.2
    refine ⟨p1, v1, rfl, by rw [W.K]; exact t1, k _ ρ1 H1 _ w1 e1 s1 ⟨fun i d H3 s st hd => ?_, fun H3 s st => ?_⟩⟩
    · obtain ⟨x, g1, rfl⟩ := numbered_get hd
      obtain ⟨vs1, m1, m2⟩ := l1 _ H3 s
      obtain ⟨b1, c1, c2⟩ := m2.get g1
      refine ⟨⟨vs1, b1, by rw [W.K]; exact m1, c1⟩, fun z H4 hz => ?_⟩
      obtain ⟨T, x', rfl, hT, rfl, f1'⟩ := hz
      have i1 := f1' vs1 (by rw [W.K]; exact m1)
      rw [c1] at i1; cases i1
      have sN : Step [] H3 (upd H3 T (.tup [.int (i : Nat), b1])) := Step.new hT
      refine ⟨?_, .inr ⟨T, _, hT, rfl⟩⟩
      rw [Nat.zero_add]
      exact .tup (.inl upd_same) (.cons (.int _) (.cons (c2.mono sN) .nil))
    · obtain ⟨vs1, m1, m2⟩ := l1 _ H3 s
      refine ⟨vs1, by rw [W.K]; exact m1, ?_⟩
      show vs1.length ≤ (numbered 0 ds).length
      rw [numbered_length, m2.length]
      exact Nat.le_refl _
  · exact w1.elim
end

/-! ## targets -/
structure Grow (ft : Fts) (H : Hp) (ft' : Fts) (H' : Hp) : Prop where
  step : Step (adsOf ft) H H'
  ads : ∀ a ∈ adsOf ft', a ∈ adsOf ft ∨ H a = none
theorem Grow.refl (ft : Fts) (H : Hp) : Grow ft H ft H := ⟨Step.refl _ _, fun _ h => .inl h⟩
theorem Grow.trans {ft ft1 ft2 : Fts} {H H1 H2 : Hp} (a : Grow ft H ft1 H1) (b : Grow ft1 H1 ft2 H2) : Grow ft H ft2 H2 :=
  ⟨a.step.transN b.step a.ads, fun x h => (b.ads x h).elim (a.ads x) fun z => .inr (a.step.back x z)⟩
theorem Grow.of {ft : Fts} {H H' : Hp} (s : Step (adsOf ft) H H') : Grow ft H ft H' := ⟨s, fun _ h => .inl h⟩
structure Keep (vs : List Nat) (σ : L2.St) (ft : Fts) (σ' : L2.St) (ft' : Fts) : Prop where
  len : σ'.length = σ.length
  at_ : ∀ j, j ∉ vs → σ'[j]? = σ[j]? ∧ ft'[j]? = ft[j]?
theorem Keep.refl (vs : List Nat) (σ : L2.St) (ft : Fts) : Keep vs σ ft σ ft := ⟨rfl, fun _ _ => ⟨rfl, rfl⟩⟩
theorem Keep.trans {vs : List Nat} {σ σ1 σ2 : L2.St} {ft ft1 ft2 : Fts} (a : Keep vs σ ft σ1 ft1) (b : Keep vs σ1 ft1 σ2 ft2) : Keep vs σ ft σ2 ft2 :=
  ⟨b.len.trans a.len, fun j h => ⟨((b.at_ j h).1).trans (a.at_ j h).1, ((b.at_ j h).2).trans (a.at_ j h).2⟩⟩
theorem Keep.mono {vs ws : List Nat} {σ σ1 : L2.St} {ft ft1 : Fts} (a : Keep vs σ ft σ1 ft1) (h : ∀ x ∈ vs, x ∈ ws) : Keep ws σ ft σ1 ft1 :=
  ⟨a.len, fun j n => a.at_ j fun z => n (h j z)⟩
def tPat (Γ : Gam) (G : Cxt) (p : Pat) : TG := fun v σ H Q => ∃ d ρ ft, ∃ R : Env → Prop, Rep G H v d ∧ At G σ H ρ ft ∧ wpPat Γ p d ρ R ∧
  ∀ ρ' σ' H' ft', R ρ' → At G σ' H' ρ' ft' → Grow ft H ft' H' → Keep (pvars p) σ ft σ' ft' → Q σ' H'
def tPats (Γ : Gam) (G : Cxt) (ps : Pats) : TGs := fun vs σ H Q => ∃ ds ρ ft, ∃ R : Env → Prop, RepL G H vs ds ∧ At G σ H ρ ft ∧ wpPats Γ ps ds ρ R ∧
  ∀ ρ' σ' H' ft', R ρ' → At G σ' H' ρ' ft' → Grow ft H ft' H' → Keep (pvars.pvarss ps) σ ft σ' ft' → Q σ' H'
theorem ads_set {ft : Fts} {i : Nat} {g : Ft} : ∀ a ∈ adsOf (ft.set i g), a ∈ adsOf ft ∨ a ∈ g.ads := by
  induction ft generalizing i with
  | nil => intro a h; cases i <;> exact .inl h
  | cons x r ih =>
    intro a h
    cases i with
    | zero =>
      have h' : a ∈ g.ads ++ adsOf r := h
      rcases List.mem_append.mp h' with z | z
      · exact .inr z
      · exact .inl (List.mem_append_right _ z)
    | succ i =>
      have h' : a ∈ x.ads ++ adsOf (r.set i g) := h
      rcases List.mem_append.mp h' with z | z
      · exact .inl (List.mem_append_left _ z)
      · exact (ih a z).imp (fun q => List.mem_append_right _ q) id
theorem nd_set {ft : Fts} {i : Nat} {g : Ft} (nd : (adsOf ft).Nodup) (ng : g.ads.Nodup) (ap : ∀ a ∈ g.ads, a ∉ adsOf ft) : (adsOf (ft.set i g)).Nodup := by
  induction ft generalizing i with
  | nil => cases i <;> exact List.nodup_nil
  | cons x r ih =>
    have nd' : (x.ads ++ adsOf r).Nodup := nd
    obtain ⟨n1, n2, n3⟩ := List.nodup_append.mp nd'
    cases i with
    | zero =>
      show (g.ads ++ adsOf r).Nodup
      exact List.nodup_append.mpr ⟨ng, n2, fun a ha b hb z => ap a ha (List.mem_append_right _ (z ▸ hb))⟩
    | succ i =>
      show (x.ads ++ adsOf (r.set i g)).Nodup
      refine List.nodup_append.mpr ⟨n1, ih n2 fun a ha z => ap a ha (List.mem_append_right _ z), fun a ha b hb z => ?_⟩
      subst z
      rcases ads_set a hb with q | q
      · exact n3 a ha a q rfl
      · exact ap a q (List.mem_append_left _ ha)
section
variable {Γ : Gam} {G : Cxt} {lv : Nat} {X : Cx} {pos : Pos} {σ : L2.St} {H : Hp} {ρ : Env} {ft : Fts}
theorem At.set (a : At G σ H ρ ft) (i : Nat) {o : Option V} {g : Ft} {s : Sl} (r : SlR G H o g s) (ng : g.ads.Nodup) (ap : ∀ x ∈ g.ads, x ∉ adsOf ft) : At G (σ.set i o) H (ρ.set i s) (ft.set i g) :=
  ⟨a.env.set i r, nd_set a.nd ng ap⟩
theorem keep_set (i : Nat) (o : Option V) (g : Ft) : Keep [i] σ ft (σ.set i o) (ft.set i g) :=
  ⟨by simp, fun j h => by
    have : i ≠ j := fun e => h (by simp [e])
    exact ⟨List.getElem?_set_ne this, List.getElem?_set_ne this⟩⟩
theorem p_nm {i : Nat} {x : Str} (W : Wd Γ G lv X) (hi : X.N[i]? = some x) (hx : Loc X.env.scope x) (hf : X.fn x = true ∨ X.env.scope.names.lookup x = some .local) : PG X (.Name x pos) (tPat Γ G (.nm i)) := by
  refine (pg_name W.nd hi hx hf).imp ?_
  rintro v σ H Q ⟨d, ρ, ft, R, r, a, w, k⟩
  simp only [wpPat] at w
  refine k _ _ H (ft.set i ft0) w (a.set i ⟨v, rfl, ⟨rfl, r⟩, rfl⟩ (by rw [ads_0]; exact List.nodup_nil) (fun x h => by rw [ads_0] at h; cases h)) ⟨Step.refl _ _, fun x h => (ads_set x h).imp id fun z => by rw [ads_0] at z; cases z⟩ (keep_set i _ _)
theorem p_tp {es : List Expr} {ps : Pats} {kk : Nat} (W : Wd Γ G lv X) (h : PGs X es (tPats Γ G ps)) (hl : lenP ps = es.length) (hn : (assignEach es X.env).length = es.length) (hst : (assignEach es X.env).findIdx? (·.1) = none) : PG X (.Tuple es kk pos) (tPat Γ G (.tp ps)) := by
  refine (pg_tup W.calm h hn hst).imp ?_
  rintro v σ H Q ⟨d, ρ, ft, R, r, a, w, k⟩
  simp only [wpPat] at w
  split at w
  · rename_i ds
    cases r with
    | tup h1 h2 =>
      refine ⟨_, _, rfl, by rw [W.K]; exact sqT_of h1, ?_, ds, ρ, ft, R, h2, a, w.2, k⟩
      rw [h2.length, w.1, hl]
  · exact w.elim
theorem p_nil : PGs X [] (tPats Γ G .nil) := by
  refine pgs_nil.imp ?_
  rintro vs σ H Q ⟨ds, ρ, ft, R, r, a, w, k⟩
  simp only [wpPats] at w
  obtain ⟨rfl, w⟩ := w
  cases r
  exact ⟨rfl, k ρ σ H ft w a (Grow.refl _ _) (Keep.refl _ _ _)⟩
theorem p_cons {e : Expr} {es : List Expr} {p : Pat} {ps : Pats} (h1 : PG X e (tPat Γ G p)) (h2 : PGs X es (tPats Γ G ps)) (hs : (assignEach (e :: es) X.env).map (·.2) = assign e X.env :: (assignEach es X.env).map (·.2)) : PGs X (e :: es) (tPats Γ G (.cons p ps)) := by
  refine (pgs_cons h1 h2 hs).imp ?_
  rintro vs σ H Q ⟨ds, ρ, ft, R, r, a, w, k⟩
  simp only [wpPats] at w
  split at w
  · rename_i d rd
    cases r with
    | cons r1 r2 =>
      refine ⟨_, _, rfl, d, ρ, ft, _, r1, a, w, fun ρ1 σ1 H1 ft1 w1 a1 g1 k1 => ?_⟩
      refine ⟨rd, ρ1, ft1, R, r2.mono g1.step, a1, w1, fun ρ2 σ2 H2 ft2 w2 a2 g2 k2 => ?_⟩
      exact k ρ2 σ2 H2 ft2 w2 a2 (g1.trans g2) ((k1.mono fun x h => List.mem_append_left _ h).trans (k2.mono fun x h => List.mem_append_right _ h))
  · exact w.elim
theorem p_sub {o i : Expr} {p : Pn} {ci : E} (W : Wd Γ G lv X) (ho : PE X o (tE Γ G (toE p))) (hi : PE X i (tE Γ G ci))
    (ha : ∀ v, assign (.Subscript o i pos) X.env v = (do
      let ov ← holding [v] (eval o X.env)
      let iv ← holding [v, ov] (eval i X.env)
      standAt pos
      holding [v, ov, iv] (setItem ov iv v)
      release [v, ov, iv] [])) : PG X (.Subscript o i pos) (tPat Γ G (.sub p ci)) := by
  refine (pg_sub ho hi set_list ha).imp ?_
  rintro v σ H Q ⟨d, ρ, ft, R, r, a, w, k⟩
  simp only [wpPat] at w
  split at w
  · rename_i pl e
    obtain ⟨⟨ds, h1⟩, h2⟩ := plOf_ok e
    refine ⟨ρ, ft, fun ev ρ' => ev = .at_ pl ∧ ρ' = ρ, a, h2 _ ⟨rfl, rfl⟩, fun ev ρ' v' H1 f1 hr1 e1 r1 n1 fr1 s1 => ?_⟩
    obtain ⟨rfl, rfl⟩ := hr1
    have hf1 : f1 = [] := by cases pl <;> exact r1.1
    subst hf1
    refine ⟨ρ', ft, _, a.next e1, w, fun x ρ2 u H2 f2 w2 e2 r2 n2 fr2 s2 => ?_⟩
    split at w2
    · rename_i j ds' h3
      obtain ⟨n, hn, w2⟩ := w2
      have r1' := r1.mono s2 fun _ z => by cases z
      obtain ⟨q, vs, rfl, _, hq, rl⟩ := (a.next e2).lst h3 r1'
      have rv := (r.mono s1).mono s2
      obtain ⟨e3, s3⟩ := set_env (ds' := ds'.set n d) (a.next e2) h3 r1' hq (rl.set rv n)
      refine ⟨q, vs, j, n, rfl, rep_int r2.2, hq, by rw [rl.length]; exact hn, ?_⟩
      exact k _ σ _ ft w2 (a.next e3) (.of ((s1.trans s2).trans s3)) (Keep.refl _ _ _)
    · exact w2.elim
  · exact w.elim
end
end DL

/-! DLk -/
namespace DL
open PySem PySem.Spec PyProof.Rows L2

/-! ## comprehensions -/
def wipeF (ft : Fts) : List Nat → Fts
  | [] => ft
  | v :: vs => (wipeF ft vs).set v ft0
section
variable {Γ : Gam} {G : Cxt} {lv : Nat} {X : Cx} {pos : Pos} {σ : L2.St} {H H' : Hp} {ρ : Env} {ft : Fts}
theorem wipe_out' {σ : L2.St} {j : Nat} : ∀ {vs : List Nat}, j ∉ vs → (wipe σ vs)[j]? = σ[j]?
  | [], _ => rfl
  | v :: vs, h => by
    have h1 : v ≠ j := fun e => h (by simp [e])
    unfold wipe
    rw [List.getElem?_set_ne h1]
    exact wipe_out' fun z => h (List.mem_cons_of_mem _ z)
theorem wipe_in {σ : L2.St} {j : Nat} : ∀ {vs : List Nat}, j ∈ vs → j < σ.length → (wipe σ vs)[j]? = some none
  | v :: vs, h, hj => by
    unfold wipe
    by_cases e : v = j
    · subst e
      rw [List.getElem?_set_self (by rw [wipe_length]; exact hj)]
    · rw [List.getElem?_set_ne e]
      exact wipe_in ((List.mem_cons.mp h).resolve_left fun z => e z.symm) hj
theorem wipe_eq {σ σ' : L2.St} {vs : List Nat} (hl : σ'.length = σ.length) (h : ∀ j, j ∉ vs → σ'[j]? = σ[j]?) : wipe σ' vs = wipe σ vs := by
  apply List.ext_getElem?
  intro j
  by_cases hj : j ∈ vs
  · by_cases hlt : j < σ.length
    · rw [wipe_in hj hlt, wipe_in hj (by omega)]
    · rw [List.getElem?_eq_none (by rw [wipe_length]; omega), List.getElem?_eq_none (by rw [wipe_length]; omega)]
  · rw [wipe_out' hj, wipe_out' hj]
    exact h j hj
theorem wipeF_out {j : Nat} : ∀ {vs : List Nat}, j ∉ vs → (wipeF ft vs)[j]? = ft[j]?
  | [], _ => rfl
  | v :: vs, h => by
    have h1 : v ≠ j := fun e => h (by simp [e])
    unfold wipeF
    rw [List.getElem?_set_ne h1]
    exact wipeF_out fun z => h (List.mem_cons_of_mem _ z)
theorem wipeF_length : ∀ vs : List Nat, (wipeF ft vs).length = ft.length
  | [] => rfl
  | v :: vs => by unfold wipeF; rw [List.length_set, wipeF_length vs]
theorem wipeF_in {j : Nat} : ∀ {vs : List Nat}, j ∈ vs → j < ft.length → (wipeF ft vs)[j]? = some ft0
  | v :: vs, h, hj => by
    unfold wipeF
    by_cases e : v = j
    · subst e
      rw [List.getElem?_set_self (by rw [wipeF_length]; exact hj)]
    · rw [List.getElem?_set_ne e]
      exact wipeF_in ((List.mem_cons.mp h).resolve_left fun z => e z.symm) hj
theorem wipeF_eq {ft' : Fts} {vs : List Nat} (hl : ft'.length = ft.length) (h : ∀ j, j ∉ vs → ft'[j]? = ft[j]?) : wipeF ft' vs = wipeF ft vs := by
  apply List.ext_getElem?
  intro j
  by_cases hj : j ∈ vs
  · by_cases hlt : j < ft.length
    · rw [wipeF_in hj hlt, wipeF_in hj (by omega)]
    · rw [List.getElem?_eq_none (by rw [wipeF_length]; omega), List.getElem?_eq_none (by rw [wipeF_length]; omega)]
  · rw [wipeF_out hj, wipeF_out hj]
    exact h j hj
theorem wipeF_ads : ∀ {vs : List Nat}, ∀ a ∈ adsOf (wipeF ft vs), a ∈ adsOf ft
  | [], _, h => h
  | v :: vs, a, h => (ads_set a h).elim (wipeF_ads a) fun z => by rw [ads_0] at z; cases z
theorem wipeF_nd (nd : (adsOf ft).Nodup) : ∀ vs : List Nat, (adsOf (wipeF ft vs)).Nodup
  | [] => nd
  | v :: vs => nd_set (wipeF_nd nd vs) (by rw [ads_0]; exact List.nodup_nil) fun a h => by rw [ads_0] at h; cases h
theorem env_wipe (h : EnvR G H σ ρ ft) : ∀ vs : List Nat, EnvR G H (wipe σ vs) (wipeR ρ vs) (wipeF ft vs)
  | [] => h
  | v :: vs => (env_wipe h vs).set v rfl
theorem At.wipe (a : At G σ H ρ ft) (vs : List Nat) : At G (L2.wipe σ vs) H (wipeR ρ vs) (wipeF ft vs) := ⟨env_wipe a.env vs, wipeF_nd a.nd vs⟩
theorem wipeR_length : ∀ vs : List Nat, (wipeR ρ vs).length = ρ.length
  | [] => rfl
  | v :: vs => by unfold wipeR; rw [List.length_set, wipeR_length vs]
theorem backR_length {ρ ρ' : Env} : ∀ vs : List Nat, (backR ρ ρ' vs).length = ρ'.length
  | [] => rfl
  | v :: vs => by unfold backR; rw [List.length_set, backR_length vs]
theorem backR_out {ρ ρ' : Env} {j : Nat} : ∀ {vs : List Nat}, j ∉ vs → (backR ρ ρ' vs)[j]? = ρ'[j]?
  | [], _ => rfl
  | v :: vs, h => by
    have h1 : v ≠ j := fun e => h (by simp [e])
    unfold backR
    rw [List.getElem?_set_ne h1]
    exact backR_out fun z => h (List.mem_cons_of_mem _ z)
theorem backR_in {ρ ρ' : Env} {j : Nat} (hl : ρ'.length = ρ.length) : ∀ {vs : List Nat}, j ∈ vs → j < ρ.length → (backR ρ ρ' vs)[j]? = ρ[j]?
  | v :: vs, h, hj => by
    unfold backR
    by_cases e : v = j
    · subst e
      rw [List.getElem?_set_self (by rw [backR_length]; omega), List.getElem?_eq_getElem hj]
      rfl
    · rw [List.getElem?_set_ne e]
      exact backR_in hl ((List.mem_cons.mp h).resolve_left fun z => e z.symm) hj
/-- the own names of a block come back -/
theorem env_back {own : List Nat} {ρ2 : Env} (a : At G σ H ρ ft) (h : EnvR G H' (wipe σ own) ρ2 (wipeF ft own)) (s : Step (adsOf (wipeF ft own)) H H') : EnvR G H' σ (backR ρ ρ2 own) ft := by
  have l1 := a.env.length
  have l2 := h.length
  rw [wipe_length, wipeF_length] at l2
  refine EnvR.of (by rw [backR_length]; omega) (by rw [backR_length]; omega) fun j o f x h1 h2 h3 => ?_
  by_cases hj : j ∈ own
  · have hlt : j < ρ.length := by have := (List.getElem?_eq_some_iff.mp h2).1; omega
    rw [backR_in (by omega) hj hlt] at h3
    refine (a.env.at_ h1 h2 h3).mono s fun p hp z => ?_
    obtain ⟨g, hg, hpg⟩ := List.mem_flatMap.mp z
    obtain ⟨k, hk, ek⟩ := List.mem_iff_getElem.mp hg
    have e1 : (wipeF ft own)[k]? = some g := by rw [List.getElem?_eq_getElem hk, ek]
    by_cases hko : k ∈ own
    · rw [wipeF_in hko (by rw [wipeF_length] at hk; exact hk)] at e1
      cases e1
      rw [ads_0] at hpg; cases hpg
    · rw [wipeF_out hko] at e1
      have := nd_apart a.nd h2 e1 hp hpg
      subst this
      exact hko hj
  · rw [backR_out hj] at h3
    exact h.at_ (by rw [wipe_out' hj]; exact h1) (by rw [wipeF_out hj]; exact h2) h3
/-- a turn of a comprehension -/
def lcStep (Γ : Gam) (p : Pat) (c : Eo) (e : E) (own : List Nat) : D → Env → (Option D → Env → Prop) → Prop :=
  fun d ρ2 k => wpPat Γ p d ρ2 fun ρ3 => wpC Γ c ρ3 fun b ρ4 => if b = true then wpE Γ e ρ4 (fun x ρ5 => match x with
        | .val y => k (some y) (wipeR ρ5 own)
        | _ => False) else k none (wipeR ρ4 own)
theorem lc_imp {p : Pat} {it : It} {c : Eo} {e : E} {own : List Nat} (hpv : ∀ j ∈ pvars p, j ∈ own) :
    ∀ (σ : L2.St) (H : Hp) (Q : VK), tE Γ G (.lc p it c e own) σ H Q → tLc (tIt Γ G it) (tPat Γ G p) (tCn Γ G c) (tE Γ G e) own σ H Q := by
  rintro σ H Q ⟨ρ, ft, R, a, w, k⟩
  simp only [wpE] at w
  refine ⟨ρ, ft, _, a, w, fun its ρ1 H1 J w1 e1 s1 hJ => ?_⟩
  obtain ⟨hlen, w1⟩ := w1
  intro D hD
  have a1 := a.next e1
  have nD : D ∉ adsOf ft := a1.env.free hD
  have w2 : lcGo its.pls (lcStep Γ p c e own) its.ds (wipeR ρ1 own) [] (fun acc ρ6 => R (.tmp acc) (backR ρ1 ρ6 own)) := w1
  have sub : ∀ x ∈ adsOf (wipeF ft own), x ∈ adsOf ft := wipeF_ads
  -- a place that stands still is not the block's own
  have still_of : ∀ {H2 : Hp} {ρ2 : Env}, At G (L2.wipe σ own) H2 ρ2 (wipeF ft own) → still its.pls ρ2 → stillR G H2 ft its.pls := fun {H2 ρ2} a2 h q hq => by
    obtain ⟨p', vs, h1, h2, h3⟩ := stillR_of a2 h q hq
    refine ⟨p', vs, ?_, h2, h3⟩
    obtain ⟨pl, ds⟩ := q
    cases pl with
    | slot i =>
      simp only [addrOf] at h1 ⊢
      by_cases hi : i ∈ own
      · by_cases hl : i < ft.length
        · rw [wipeF_in hi hl] at h1; cases h1
        · rw [List.getElem?_eq_none (by rw [wipeF_length]; omega)] at h1; cases h1
      · rw [wipeF_out hi] at h1; exact h1
    | fld i k =>
      simp only [addrOf] at h1 ⊢
      by_cases hi : i ∈ own
      · by_cases hl : i < ft.length
        · rw [wipeF_in hi hl] at h1; simp [ft0] at h1
        · rw [List.getElem?_eq_none (by rw [wipeF_length]; omega)] at h1; cases h1
      · rw [wipeF_out hi] at h1; exact h1
  refine ⟨fun i m H2 => m = its.ds.length - i ∧ i ≤ its.ds.length ∧ ∃ ρ2 acc vacc, lcGo its.pls (lcStep Γ p c e own) (its.ds.drop i) ρ2 acc (fun acc ρ6 => R (.tmp acc) (backR ρ1 ρ6 own)) ∧
    At G (L2.wipe σ own) H2 ρ2 (wipeF ft own) ∧ H2 D = some (.lst vacc) ∧ RepL G H2 vacc acc ∧ acc.length ≤ i ∧ Step (adsOf (wipeF ft own)) H1 H2, ⟨its.ds.length, rfl, Nat.zero_le _, wipeR ρ1 own, [], [], w2, ?_, upd_same, .nil, Nat.le_refl _, Step.new hD⟩, ?_⟩
  · have s0 : Step [] H1 (upd H1 D (.lst [])) := Step.new hD
    exact (a1.wipe own).next ((a1.wipe own).env.mono s0 fun _ _ z => by cases z)
  · rintro i m H2 ⟨rfl, hi, ρ2, acc, vacc, wg, a2, hacc, racc, lacc, s2⟩
    have s2' : Step (adsOf ft) H1 H2 := s2.mono sub
    by_cases hlt : i < its.ds.length
    · right
      rw [List.drop_eq_getElem_cons hlt] at wg
      obtain ⟨hst, wg⟩ := wg
      have stR := still_of a2 hst
      obtain ⟨g1, g2⟩ := hJ.go i its.ds[i] H2 s2' stR (List.getElem?_eq_getElem hlt)
      refine ⟨g1, fun H6 => ∃ ρ6 acc6 vacc6, lcGo its.pls (lcStep Γ p c e own) (its.ds.drop (i + 1)) ρ6 acc6 (fun acc ρ6 => R (.tmp acc) (backR ρ1 ρ6 own)) ∧ At G (L2.wipe σ own) H6 ρ6 (wipeF ft own) ∧ H6 D = some (.lst vacc6) ∧ RepL G H6 vacc6 acc6 ∧ acc6.length ≤ i + 1 ∧ Step (adsOf (wipeF ft own)) H1 H6,
        fun H6 h6 => ⟨its.ds.length - (i + 1), by omega, rfl, hlt, h6⟩, fun x H3 hy => ?_⟩
      obtain ⟨rx, n1⟩ := g2 x H3 hy
      have s3 : Step (adsOf (wipeF ft own)) H2 H3 := n1.step
      have a3 : At G (L2.wipe σ own) H3 ρ2 (wipeF ft own) := a2.next (a2.env.mono (n1.step : Step [] H2 H3) fun _ _ z => by cases z)
      have nDw : D ∉ adsOf (wipeF ft own) := fun z => nD (sub _ z)
      refine ⟨its.ds[i], ρ2, wipeF ft own, _, rx, a3, wg, fun ρ3 σ3 H4 ft3 w3 a4 gr kp => ?_⟩
      have hw : wipe σ3 own = wipe (wipe σ own) own := wipe_eq kp.len fun j hj => (kp.at_ j fun z => hj (hpv j z)).1
      have hww : wipe (wipe σ own) own = wipe σ own := wipe_eq (wipe_length _ _) fun j hj => wipe_out' hj
      have hf : wipeF ft3 own = wipeF ft own := by
        have l1 := a4.env.length
        have l2 := a3.env.length
        have l3 := kp.len
        rw [wipeF_eq (ft := wipeF ft own) (ft' := ft3) (by omega) fun j hj => (kp.at_ j fun z => hj (hpv j z)).2]
        exact wipeF_eq (wipeF_length _) fun j hj => wipeF_out hj
      refine ⟨hw.trans hww, ?_⟩
      refine ⟨ρ3, ft3, _, a4, w3, fun b ρ4 H5 w4 e5 s5 => ?_⟩
      have s35 : Step (adsOf (wipeF ft own)) H3 H5 := gr.step.transN s5 gr.ads
      have a5 := a4.next e5
      cases b with
      | false =>
        have a6 := a5.wipe own
        rw [hw, hww, hf] at a6
        have sAll := s2.trans (s3.trans s35)
        have sD := s3.trans s35
        exact ⟨_, acc, vacc, w4, a6, sD.keep _ _ hacc nDw, racc.mono sD, by omega, sAll⟩
      | true =>
        refine ⟨ρ4, ft3, _, a5, w4, fun y ρ5 v H6 fr w5 e6 r6 n6 f6 s6 => ?_⟩
        split at w5
        · rename_i d
          have s36 : Step (adsOf (wipeF ft own)) H3 H6 := s35.transN s6 fun x hx => (gr.ads x hx)
          have sD := s3.trans s36
          have hD6 := sD.keep _ _ hacc nDw
          have a6 := (a5.next e6).wipe own
          rw [hw, hww, hf] at a6
          have racc6 := racc.mono sD
          refine ⟨vacc, hD6, ?_, ?_⟩
          · rw [racc6.length]
            exact sz5' (by omega)
          · have sl : Step [D] H6 (upd H6 D (.lst (vacc ++ [v]))) := Step.lst hD6 (by simp)
            refine ⟨_, acc ++ [d], vacc ++ [v], w5, a6.next (a6.env.mono sl fun p' hp' z => ?_), upd_same, (racc6.append (.one r6.2)).mono sl, by simp; omega, ?_⟩
            · have : p' = D := by simpa using z
              rw [this] at hp'
              exact nDw hp'
            · exact (s2.trans (s3.trans s36)).transN sl fun x hx => by
                have : x = D := by simpa using hx
                rw [this]; exact .inr hD
        · exact w5.elim
    · left
      have hi' : i = its.ds.length := by omega
      subst hi'
      rw [List.drop_length] at wg
      obtain ⟨hst, wg⟩ := wg
      refine ⟨hJ.stop H2 s2' (still_of a2 hst), ?_⟩
      refine k (.tmp acc) _ (.ref D) H2 [D] wg (env_back a1 a2.env s2) ⟨D, vacc, rfl, rfl, hacc, racc⟩ (by simp) (fun x hx => ?_) (s1.trans s2')
      have : x = D := by simpa using hx
      rw [this]
      exact s1.back D hD
/-- a block's tests -/
theorem c_no : PTs X [] (tCn Γ G .no) := by
  refine pts_nil.imp ?_
  rintro σ H Q ⟨ρ, ft, R, a, w, k⟩
  simp only [wpC] at w
  exact k true ρ H w a.env (Step.refl _ _)
theorem c_yes {f : Expr} {cf : E} (h : PT X f (tTest (tE Γ G cf))) : PTs X [f] (tCn Γ G (.yes cf)) := by
  refine (pts_one h).imp ?_
  rintro σ H Q ⟨ρ, ft, R, a, w, k⟩
  simp only [wpC] at w
  refine ⟨ρ, ft, _, a, w, fun x ρ1 v H1 f1 w1 e1 r1 n1 fr1 s1 => ?_⟩
  split at w1
  · rename_i b
    exact ⟨b, rep_bl r1.2, k b ρ1 H1 w1 e1 s1⟩
  · exact w1.elim
end
end DL

/-! DLl -/
namespace DL
open PySem PySem.Spec PyProof.Rows L2

/-! ## statements -/
structure Kp (vs us : List Nat) (σ : L2.St) (ft : Fts) (σ' : L2.St) (ft' : Fts) : Prop where
  len : σ'.length = σ.length
  at_ : ∀ j, j ∉ vs → σ'[j]? = σ[j]?
  ft_ : ∀ j, j ∉ vs → j ∉ us → ft'[j]? = ft[j]?
theorem Kp.refl (vs us : List Nat) (σ : L2.St) (ft : Fts) : Kp vs us σ ft σ ft := ⟨rfl, fun _ _ => rfl, fun _ _ _ => rfl⟩
theorem Kp.trans {vs us : List Nat} {σ σ1 σ2 : L2.St} {ft ft1 ft2 : Fts} (a : Kp vs us σ ft σ1 ft1) (b : Kp vs us σ1 ft1 σ2 ft2) : Kp vs us σ ft σ2 ft2 :=
  ⟨b.len.trans a.len, fun j h => (b.at_ j h).trans (a.at_ j h), fun j h h2 => (b.ft_ j h h2).trans (a.ft_ j h h2)⟩
theorem Kp.mono {vs us ws xs : List Nat} {σ σ1 : L2.St} {ft ft1 : Fts} (a : Kp vs us σ ft σ1 ft1) (h : ∀ x ∈ vs, x ∈ ws) (h2 : ∀ x ∈ us, x ∈ xs) : Kp ws xs σ ft σ1 ft1 :=
  ⟨a.len, fun j n => a.at_ j fun z => n (h j z), fun j n m => a.ft_ j (fun z => n (h j z)) fun z => m (h2 j z)⟩
theorem Keep.kp {vs us : List Nat} {σ σ1 : L2.St} {ft ft1 : Fts} (a : Keep vs σ ft σ1 ft1) : Kp vs us σ ft σ1 ft1 := ⟨a.len, fun j n => (a.at_ j n).1, fun j n _ => (a.at_ j n).2⟩
structure EndOk (G : Cxt) (vs us : List Nat) (σ : L2.St) (ft : Fts) (H : Hp) (P : Post) (D : Ends) : Prop where
  nx : ∀ ρ' σ' H' ft', P.nx ρ' → At G σ' H' ρ' ft' → Grow ft H ft' H' → Kp vs us σ ft σ' ft' → D.nx σ' H'
  rt : ∀ ev ρ' σ' v H' ft' fr, P.rt ev ρ' → At G σ' H' ρ' ft' → Grow ft H ft' H' → Kp vs us σ ft σ' ft' → EvR G H' ft' ev v fr → fr.Nodup → (∀ a ∈ fr, H a = none) → (∀ a ∈ fr, a ∉ adsOf ft') → D.rt v H'
  bk : ∀ ρ' σ' H' ft', P.bk ρ' → At G σ' H' ρ' ft' → Grow ft H ft' H' → Kp vs us σ ft σ' ft' → D.bk σ' H'
  ct : ∀ ρ' σ' H' ft', P.ct ρ' → At G σ' H' ρ' ft' → Grow ft H ft' H' → Kp vs us σ ft σ' ft' → D.ct σ' H'
/-- later on -/
theorem EndOk.later {G : Cxt} {vs us : List Nat} {σ σ1 : L2.St} {ft ft1 : Fts} {H H1 : Hp} {P : Post} {D : Ends} (k : EndOk G vs us σ ft H P D) (g : Grow ft H ft1 H1) (kp : Kp vs us σ ft σ1 ft1) : EndOk G vs us σ1 ft1 H1 P D where
  nx := fun ρ' σ' H' ft' h a g' kp' => k.nx ρ' σ' H' ft' h a (g.trans g') (kp.trans kp')
  rt := fun ev ρ' σ' v H' ft' fr h a g' kp' r n f ap => k.rt ev ρ' σ' v H' ft' fr h a (g.trans g') (kp.trans kp') r n (fun x hx => g.step.back x (f x hx)) ap
  bk := fun ρ' σ' H' ft' h a g' kp' => k.bk ρ' σ' H' ft' h a (g.trans g') (kp.trans kp')
  ct := fun ρ' σ' H' ft' h a g' kp' => k.ct ρ' σ' H' ft' h a (g.trans g') (kp.trans kp')
theorem EndOk.sub {G : Cxt} {vs us ws xs : List Nat} {σ : L2.St} {ft : Fts} {H : Hp} {P : Post} {D : Ends} (k : EndOk G ws xs σ ft H P D) (h : ∀ x ∈ vs, x ∈ ws) (h2 : ∀ x ∈ us, x ∈ xs) : EndOk G vs us σ ft H P D where
  nx := fun ρ' σ' H' ft' a b c d => k.nx ρ' σ' H' ft' a b c (d.mono h h2)
  rt := fun ev ρ' σ' v H' ft' fr a b c d => k.rt ev ρ' σ' v H' ft' fr a b c (d.mono h h2)
  bk := fun ρ' σ' H' ft' a b c d => k.bk ρ' σ' H' ft' a b c (d.mono h h2)
  ct := fun ρ' σ' H' ft' a b c d => k.ct ρ' σ' H' ft' a b c (d.mono h h2)
def tS (Γ : Gam) (G : Cxt) (c : S) : TS := fun D σ H => ∃ ρ ft P, At G σ H ρ ft ∧ wpS Γ c ρ P ∧ EndOk G (asgS c) (grwS c) σ ft H P D
def tSs (Γ : Gam) (G : Cxt) (c : Ss) : TS := fun D σ H => ∃ ρ ft P, At G σ H ρ ft ∧ wpSs Γ c ρ P ∧ EndOk G (asgSs c) (grwSs c) σ ft H P D
section
variable {Γ : Gam} {G : Cxt} {lv : Nat} {X : Cx} {pos : Pos} {a b : Expr} {ca cb : E} {e : Expr} {ce : E}
theorem ss_nil : PSs X [] (tSs Γ G .nil) := by
  refine pss_nil.imp ?_
  rintro D σ H ⟨ρ, ft, P, a, w, k⟩
  simp only [wpSs] at w
  exact k.nx ρ σ H ft w a (Grow.refl _ _) (Kp.refl _ _ _ _)
theorem ss_cons {s : Stmt} {r : List Stmt} {cs : S} {cr : Ss} (h1 : PS X s (tS Γ G cs)) (h2 : PSs X r (tSs Γ G cr)) : PSs X (s :: r) (tSs Γ G (.cons cs cr)) := by
  refine (pss_cons h1 h2).imp ?_
  rintro D σ H ⟨ρ, ft, P, a, w, k⟩
  simp only [wpSs] at w
  have l1 : ∀ x ∈ asgS cs, x ∈ asgSs (.cons cs cr) := fun x h => by unfold asgSs; exact List.mem_append_left _ h
  have l2 : ∀ x ∈ asgSs cr, x ∈ asgSs (.cons cs cr) := fun x h => by show x ∈ asgSs (.cons cs cr); rw [asgSs]; exact List.mem_append_right _ h
  have l3 : ∀ x ∈ grwS cs, x ∈ grwSs (.cons cs cr) := fun x h => by unfold grwSs; exact List.mem_append_left _ h
  have l4 : ∀ x ∈ grwSs cr, x ∈ grwSs (.cons cs cr) := fun x h => by show x ∈ grwSs (.cons cs cr); rw [grwSs]; exact List.mem_append_right _ h
  refine ⟨ρ, ft, _, a, w, ⟨fun ρ1 σ1 H1 ft1 w1 a1 g1 k1 => ?_, fun ev ρ' σ' v H' ft' fr h1 h2 h3 h4 => k.rt ev ρ' σ' v H' ft' fr h1 h2 h3 (h4.mono l1 l3), fun ρ' σ' H' ft' h1 h2 h3 h4 => k.bk ρ' σ' H' ft' h1 h2 h3 (h4.mono l1 l3), fun ρ' σ' H' ft' h1 h2 h3 h4 => k.ct ρ' σ' H' ft' h1 h2 h3 (h4.mono l1 l3)⟩⟩
  exact ⟨ρ1, ft1, P, a1, w1, (k.later g1 (k1.mono l1 l3)).sub l2 l4⟩
/-- a value is stored by a name, whatever it is -/
theorem asg_nm {i : Nat} {D : Ends} {σ : L2.St} {H0 H : Hp} {ρ : Env} {ft : Fts} {x : Ev} {v : V} {fr : List Addr} {R : Env → Prop} {us : List Nat} (a : At G σ H ρ ft) (s : Step (adsOf ft) H0 H) (r : EvR G H ft x v fr) (n : fr.Nodup) (f : ∀ y ∈ fr, H0 y = none) (ap : ∀ y ∈ fr, y ∉ adsOf ft)
    (w : wpAsg Γ (.nm i) x ρ R) (k : ∀ ρ' σ' H' ft', R ρ' → At G σ' H' ρ' ft' → Grow ft H0 ft' H' → Kp [i] us σ ft σ' ft' → D.nx σ' H') : gName i v σ H D.nx := by
  have fin : ∀ (g : Ft) (y : Sl), SlR G H (some v) g y → g.ads.Nodup → (∀ z ∈ g.ads, z ∈ fr) → R (ρ.set i y) → gName i v σ H D.nx := fun g y hs hn hsub hr =>
    k _ _ H (ft.set i g) hr (a.set i hs hn fun z hz => ap z (hsub z hz)) ⟨s, fun z hz => (ads_set z hz).imp id fun q => f z (hsub z q)⟩ (keep_set i _ _).kp
  cases x with
  | val d =>
    have w' : R (ρ.set i (.fd (.val d))) := by
      have w2 := w
      simp only [wpAsg, wpPat] at w2
      exact w2
    exact fin ft0 (.fd (.val d)) ⟨v, rfl, ⟨rfl, r.2⟩, rfl⟩ (by rw [ads_0]; exact List.nodup_nil) (fun z hz => by rw [ads_0] at hz; cases hz) w'
  | tmp ds =>
    have w' : R (ρ.set i (.fd (.lst ds))) := by
      have w2 := w
      simp only [wpAsg] at w2
      exact w2
    obtain ⟨p, vs, rfl, rfl, h2, h3⟩ := r
    exact fin (ftL p) (.fd (.lst ds)) ⟨.ref p, rfl, ⟨p, vs, rfl, rfl, h2, h3⟩, rfl⟩ (by rw [ads_L]; simp) (fun z hz => by rw [ads_L] at hz; exact hz) w'
  | at_ p =>
    have w2 := w
    simp only [wpAsg] at w2
  | obj C fs =>
    have w' : R (ρ.set i (.ins C fs)) := by
      have w2 := w
      simp only [wpAsg] at w2
      exact w2
    obtain ⟨g, hs, rfl⟩ := r
    exact fin g (.ins C fs) hs n (fun z hz => hz) w'
theorem asg_imp {p : Pat} {te : TE} {g : TG} (he : ∀ σ H Q, tE Γ G ce σ H Q → te σ H Q)
    (hg : ∀ (D : Ends) (σ : L2.St) (H0 H : Hp) (ρ : Env) (ft : Fts) (x : Ev) (v : V) (fr : List Addr) (R : Env → Prop), At G σ H ρ ft → Step (adsOf ft) H0 H → EvR G H ft x v fr → fr.Nodup → (∀ y ∈ fr, H0 y = none) → (∀ y ∈ fr, y ∉ adsOf ft) → wpAsg Γ p x ρ R →
      (∀ ρ' σ' H' ft', R ρ' → At G σ' H' ρ' ft' → Grow ft H0 ft' H' → Kp (pvars p) [] σ ft σ' ft' → D.nx σ' H') → g v σ H D.nx) : ∀ D σ H, tS Γ G (.asg p ce) D σ H → tAsg te g D σ H := by
  rintro D σ H ⟨ρ, ft, P, a, w, k⟩
  simp only [wpS] at w
  refine he _ _ _ ⟨ρ, ft, _, a, w, fun x ρ1 v H1 fr w1 e1 r n f s => ?_⟩
  exact hg D σ H H1 ρ1 ft x v fr P.nx (a.next e1) s r n f (apart_of a f) w1 fun ρ' σ' H' ft' h1 h2 h3 h4 => k.nx ρ' σ' H' ft' h1 h2 h3 h4
theorem pat_asg {p : Pat} {D : Ends} {σ : L2.St} {H0 H : Hp} {ρ : Env} {ft : Fts} {x : Ev} {v : V} {fr : List Addr} {R : Env → Prop} (hp : ∀ i, p ≠ .nm i) (a : At G σ H ρ ft) (s : Step (adsOf ft) H0 H) (r : EvR G H ft x v fr) (w : wpAsg Γ p x ρ R)
    (k : ∀ ρ' σ' H' ft', R ρ' → At G σ' H' ρ' ft' → Grow ft H0 ft' H' → Kp (pvars p) [] σ ft σ' ft' → D.nx σ' H') : tPat Γ G p v σ H D.nx := by
  have hx : ∃ d, x = .val d ∧ wpPat Γ p d ρ R := by
    cases p with
    | nm i => exact absurd rfl (hp i)
    | tp ps => cases x <;> simp only [wpAsg] at w <;> exact ⟨_, rfl, w⟩
    | sub pl e => cases x <;> simp only [wpAsg] at w <;> exact ⟨_, rfl, w⟩
  obtain ⟨d, rfl, w2⟩ := hx
  exact ⟨d, ρ, ft, R, r.2, a, w2, fun ρ' σ' H' ft' h1 h2 h3 h4 => k ρ' σ' H' ft' h1 h2 ((Grow.of s).trans h3) h4.kp⟩
/-- name = value -/
theorem ss_nm {i : Nat} {x : Str} {p : Pos} (W : Wd Γ G lv X) (hi : X.N[i]? = some x) (hx : Loc X.env.scope x) (hf : X.fn x = true ∨ X.env.scope.names.lookup x = some .local) (he : PE X e (tE Γ G ce)) (hs : swapsWith e (some (.Name x p)) pos.line X.env = pure false) :
    PS X (.Assign [.Name x p] e pos) (tS Γ G (.asg (.nm i) ce)) :=
  (ps_set W.nd hi hx he hs hf).imp (asg_imp (fun _ _ _ h => h) fun D σ H0 H ρ ft x v fr R a s r n f ap w k => asg_nm a s r n f ap w k)
/-- name = [..] on one line -/
theorem ss_nmLc {i : Nat} {y : Str} {py : Pos} {elt tg iter : Expr} {ifs : List Expr} {scope : Scope} {own : List (Str × Nat)} {cpos : Pos} {p : Pat} {it : It} {c : Eo} {el : E} (W : Wd Γ G lv X) (hy : X.N[i]? = some y) (hyl : X.env.scope.names.lookup y = some .local)
    (hsw : swapsWith (.ListComp elt [⟨tg, iter, ifs, 0⟩] scope cpos) (some (.Name y py)) pos.line X.env = pure true) (hi : PI X tg iter (tIt Γ G it)) (ok : BlkOk X.N X.env.scope scope own)
    (hg : ∀ (s : Shared) (H : Hp) (C : Addr) (cl : List (Str × Addr)) (fp : List Addr), PG (X.blk s H scope (compEnvC scope cl C X.env) fp) tg (tPat Γ G p)) (ht : ∀ (s : Shared) (H : Hp) (C : Addr) (cl : List (Str × Addr)) (fp : List Addr), PTs (X.blk s H scope (compEnvC scope cl C X.env) fp) ifs (tCn Γ G c))
    (he : ∀ (s : Shared) (H : Hp) (C : Addr) (cl : List (Str × Addr)) (fp : List Addr), PE (X.blk s H scope (compEnvC scope cl C X.env) fp) elt (tE Γ G el)) (hs : ∀ x, foldedSetIterable iter X.env x = pure x) (hpv : ∀ j ∈ pvars p, j ∈ own.map (·.2)) :
    PS X (.Assign [.Name y py] (.ListComp elt [⟨tg, iter, ifs, 0⟩] scope cpos) pos) (tS Γ G (.asg (.nm i) (.lc p it c el (own.map (·.2))))) :=
  (ps_setLc W.calm W.nd hy hyl hsw hi ok hg ht he hs).imp (asg_imp (fun σ H Q h => lc_imp hpv σ H Q h) fun D σ H0 H ρ ft x v fr R a s r n f ap w k => asg_nm a s r n f ap w k)
/-- target = value -/
theorem ss_pat {tg : Expr} {p : Pat} (hp : ∀ i, p ≠ .nm i) (he : PE X e (tE Γ G ce)) (hg : PG X tg (tPat Γ G p)) (hs : swapsWithSole [tg] e pos.line X.env = pure false) (hw : swappedStores [tg] e X.env = pure none) (h1 : (assignEach [tg] X.env).map (·.2) = [assign tg X.env]) :
    PS X (.Assign [tg] e pos) (tS Γ G (.asg p ce)) :=
  (ps_asg he hg hs hw h1).imp (asg_imp (fun _ _ _ h => h) fun D σ H0 H ρ ft x v fr R a s r n f ap w k => pat_asg hp a s r w k)
/-- several names at once -/
def ownEv : Ev → Prop
  | .val _ => True
  | .tmp _ => True
  | _ => False
theorem setAll_own : ∀ {is : List Nat} {xs : List Ev} {ρ : Env} {R : Env → Prop}, setAll is xs ρ R → ∀ x ∈ xs, ownEv x
  | _, [], _, _, _, x, h => by cases h
  | [], y :: ys, _, _, w, x, h => by cases y <;> exact w.elim
  | i :: is, y :: ys, _, _, w, x, h => by
    cases y with
    | val d => rcases List.mem_cons.mp h with rfl | h; exact True.intro; exact setAll_own (is := is) w x h
    | tmp d => rcases List.mem_cons.mp h with rfl | h; exact True.intro; exact setAll_own (is := is) w x h
    | at_ p => exact w.elim
    | obj C fs => exact w.elim
theorem EvsR.swap {H : Hp} {ft ft' : Fts} : ∀ {xs : List Ev} {vs : List V} {fr : List Addr}, EvsR G H ft xs vs fr → (∀ x ∈ xs, ownEv x) → EvsR G H ft' xs vs fr
  | _, _, _, .nil, _ => .nil
  | _, _, _, .cons (e := x) r t, h => by
    refine .cons ?_ (EvsR.swap t fun y hy => h y (List.mem_cons_of_mem _ hy))
    have := h x List.mem_cons_self
    cases x with
    | val d => exact r
    | tmp d => exact r
    | at_ p => exact this.elim
    | obj C fs => exact this.elim
theorem setAll_ok {us : List Nat} {H : Hp} : ∀ {is : List Nat} {xs : List Ev} {vs : List V} {fr : List Addr} {σ : L2.St} {ρ : Env} {ft : Fts} {R : Env → Prop} {Q : L2.St → Hp → Prop}, At G σ H ρ ft → EvsR G H ft xs vs fr → fr.Nodup → (∀ y ∈ fr, y ∉ adsOf ft) → setAll is xs ρ R →
    (∀ ρ' σ' ft', R ρ' → At G σ' H ρ' ft' → (∀ y ∈ adsOf ft', y ∈ adsOf ft ∨ y ∈ fr) → Kp is us σ ft σ' ft' → Q σ' H) → is.length = vs.length ∧ Q ((is.zip vs).foldl (fun s q => s.set q.1 (some q.2)) σ) H
  | [], _, _, _, σ, ρ, ft, R, Q, a, .nil, _, _, w, k => ⟨rfl, k ρ σ ft w a (fun _ h => .inl h) (Kp.refl _ _ _ _)⟩
  | i :: is, _, _, _, σ, ρ, ft, R, Q, a, .cons (e := x) (es := xs) (v := v) (vs := vs) (fr := f1) (frs := f2) r t, n, ap, w, k => by
    obtain ⟨n1, n2, n3⟩ := List.nodup_append.mp n
    have key : ∀ (g : Ft) (y : Sl), SlR G H (some v) g y → g.ads.Nodup → (∀ z ∈ g.ads, z ∈ f1) → setAll is xs (ρ.set i y) R → (i :: is).length = (v :: vs).length ∧ Q (((i :: is).zip (v :: vs)).foldl (fun s q => s.set q.1 (some q.2)) σ) H := fun g y hs hn hsub hr => by
      have a1 : At G (σ.set i (some v)) H (ρ.set i y) (ft.set i g) := a.set i hs hn fun z hz => ap z (List.mem_append_left _ (hsub z hz))
      have ap2 : ∀ y ∈ f2, y ∉ adsOf (ft.set i g) := fun y hy z => (ads_set y z).elim (ap y (List.mem_append_right _ hy)) fun q => n3 y (hsub y q) y hy rfl
      have t' : EvsR G H (ft.set i g) xs vs f2 := EvsR.swap t (setAll_own hr)
      obtain ⟨h1, h2⟩ := setAll_ok (us := us) (Q := Q) a1 t' n2 ap2 hr fun ρ' σ' ft' q1 q2 q3 q4 => k ρ' σ' ft' q1 q2 (fun z hz => (q3 z hz).elim (fun h => (ads_set z h).imp id fun h => List.mem_append_left _ (hsub z h)) fun h => .inr (List.mem_append_right _ h))
        ((((keep_set i (some v) g).kp (us := us)).mono (fun x hx => by rw [List.mem_singleton.mp hx]; exact List.mem_cons_self) fun _ h => h).trans (q4.mono (fun x hx => List.mem_cons_of_mem _ hx) fun _ h => h))
      exact ⟨by simp [h1], h2⟩
    cases x with
    | val d => exact key ft0 (.fd (.val d)) ⟨v, rfl, ⟨rfl, r.2⟩, rfl⟩ (by rw [ads_0]; exact List.nodup_nil) (fun z hz => by rw [ads_0] at hz; cases hz) w
    | tmp ds =>
      obtain ⟨p, vs', rfl, rfl, h2, h3⟩ := r
      exact key (ftL p) (.fd (.lst ds)) ⟨.ref p, rfl, ⟨p, vs', rfl, rfl, h2, h3⟩, rfl⟩ (by rw [ads_L]; simp) (fun z hz => by rw [ads_L] at hz; exact hz) w
    | at_ p => exact w.elim
    | obj C fs => exact w.elim
  | i :: is, _, _, _, σ, ρ, ft, R, Q, a, .nil, _, _, w, k => w.elim
  | [], _, _, _, σ, ρ, ft, R, Q, a, .cons (e := x) _ _, _, _, w, k => by cases x <;> exact w.elim
def tParA (is : List Nat) (ta : TA) : TS := fun D σ H => ta σ H fun vs H1 => is.length = vs.length ∧ D.nx ((is.zip vs).foldl (fun s q => s.set q.1 (some q.2)) σ) H1
theorem par_imp {is : List Nat} {cs : Es} : ∀ D σ H, tS Γ G (.par is cs) D σ H → tParA is (tEs Γ G cs) D σ H := by
  rintro D σ H ⟨ρ, ft, P, a, w, k⟩
  simp only [wpS] at w
  refine ⟨ρ, ft, _, a, w, fun xs ρ1 vs H1 fr w1 e1 r n f s => ?_⟩
  exact setAll_ok (us := []) (a.next e1) r n (apart_of a f) w1 fun ρ' σ' ft' h1 h2 h3 h4 => k.nx ρ' σ' H1 ft' h1 h2 ⟨s, fun y hy => (h3 y hy).imp id (f y)⟩ h4
theorem ss_par2 {i j : Nat} {x y : Str} {px py pt : Pos} {kt k2 : Nat} {pt2 : Pos} {cs : Es} (W : Wd Γ G lv X) (hi : X.N[i]? = some x) (hj : X.N[j]? = some y) (hij : i ≠ j)
    (hx : X.env.scope.names.lookup x = some .local) (hy : X.env.scope.names.lookup y = some .local) (ha : PA X [a, b] (tEs Γ G cs))
    (hw : swappedStores [.Tuple [.Name x px, .Name y py] kt pt] (.Tuple [a, b] k2 pt2) X.env = pure (some [x, y]))
    (hs : swapsWithSole [.Tuple [.Name x px, .Name y py] kt pt] (.Tuple [a, b] k2 pt2) pos.line X.env = pure false) :
    PS X (.Assign [.Tuple [.Name x px, .Name y py] kt pt] (.Tuple [a, b] k2 pt2) pos) (tS Γ G (.par [i, j] cs)) := by
  refine (ps_par W.calm W.nd hi hj hij hx hy ha hw hs).imp ?_
  intro D σ H h
  obtain ⟨ρ, ft, R, a', w, k⟩ := par_imp D σ H h
  refine ⟨ρ, ft, R, a', w, fun evs ρ' vs H' fr h1 h2 h3 h4 h5 h6 => ?_⟩
  obtain ⟨hl, q⟩ := k evs ρ' vs H' fr h1 h2 h3 h4 h5 h6
  match vs, hl, q with
  | [v, w], _, q => exact ⟨v, w, rfl, q⟩
theorem ss_par3 {i j l : Nat} {x y z : Str} {px py pz pt : Pos} {kt k2 : Nat} {pt2 : Pos} {cs : Es} {c : Expr} (W : Wd Γ G lv X) (hi : X.N[i]? = some x) (hj : X.N[j]? = some y) (hl : X.N[l]? = some z) (hij : i ≠ j) (hil : i ≠ l) (hjl : j ≠ l)
    (hx : X.env.scope.names.lookup x = some .local) (hy : X.env.scope.names.lookup y = some .local) (hz : X.env.scope.names.lookup z = some .local) (ha : PA X [a, b, c] (tEs Γ G cs))
    (hw : swappedStores [.Tuple [.Name x px, .Name y py, .Name z pz] kt pt] (.Tuple [a, b, c] k2 pt2) X.env = pure (some [x, y, z]))
    (hs : swapsWithSole [.Tuple [.Name x px, .Name y py, .Name z pz] kt pt] (.Tuple [a, b, c] k2 pt2) pos.line X.env = pure false) :
    PS X (.Assign [.Tuple [.Name x px, .Name y py, .Name z pz] kt pt] (.Tuple [a, b, c] k2 pt2) pos) (tS Γ G (.par [i, j, l] cs)) := by
  refine (ps_par3 W.calm W.nd hi hj hl hij hil hjl hx hy hz ha hw hs).imp ?_
  intro D σ H h
  obtain ⟨ρ, ft, R, a', w, k⟩ := par_imp D σ H h
  refine ⟨ρ, ft, R, a', w, fun evs ρ' vs H' fr h1 h2 h3 h4 h5 h6 => ?_⟩
  obtain ⟨hl, q⟩ := k evs ρ' vs H' fr h1 h2 h3 h4 h5 h6
  match vs, hl, q with
  | [v, w, u], _, q => exact ⟨v, w, u, rfl, q⟩
/-- short ones -/
theorem ss_exp (he : PE X e (tE Γ G ce)) (hs : swapsWith e none pos.line X.env = pure false) : PS X (.Expr e pos) (tS Γ G (.exp ce)) := by
  refine (ps_expr he hs).imp ?_
  rintro D σ H ⟨ρ, ft, P, a, w, k⟩
  simp only [wpS] at w
  exact ⟨ρ, ft, _, a, w, fun x ρ1 v H1 fr w1 e1 r n f s => k.nx ρ1 σ H1 ft w1 (a.next e1) (Grow.of s) (Kp.refl _ _ _ _)⟩
theorem ss_ret (he : PE X e (tE Γ G ce)) : PS X (.Return (some e) pos) (tS Γ G (.ret ce)) := by
  refine (ps_ret he).imp ?_
  rintro D σ H ⟨ρ, ft, P, a, w, k⟩
  simp only [wpS] at w
  exact ⟨ρ, ft, _, a, w, fun x ρ1 v H1 fr w1 e1 r n f s => k.rt x ρ1 σ v H1 ft fr w1 (a.next e1) (Grow.of s) (Kp.refl _ _ _ _) r n f (apart_of a f)⟩
theorem ss_doc {x : Str} {j : Nat} {p : Pos} : PS X (.Expr (.Constant (.str x) j p) pos) (tS Γ G .pass) := by
  refine ps_doc.imp ?_
  rintro D σ H ⟨ρ, ft, P, a, w, k⟩
  simp only [wpS] at w
  exact k.nx ρ σ H ft w a (Grow.refl _ _) (Kp.refl _ _ _ _)
theorem ss_pass : PS X (.Pass pos) (tS Γ G .pass) := by
  refine ps_pass.imp ?_
  rintro D σ H ⟨ρ, ft, P, a, w, k⟩
  simp only [wpS] at w
  exact k.nx ρ σ H ft w a (Grow.refl _ _) (Kp.refl _ _ _ _)
theorem ss_brk : PS X (.Break pos) (tS Γ G .brk) := by
  refine ps_break.imp ?_
  rintro D σ H ⟨ρ, ft, P, a, w, k⟩
  simp only [wpS] at w
  exact k.bk ρ σ H ft w a (Grow.refl _ _) (Kp.refl _ _ _ _)
theorem ss_cont : PS X (.Continue pos) (tS Γ G .cont) := by
  refine ps_continue.imp ?_
  rintro D σ H ⟨ρ, ft, P, a, w, k⟩
  simp only [wpS] at w
  exact k.ct ρ σ H ft w a (Grow.refl _ _) (Kp.refl _ _ _ _)
theorem ss_raise {s : Stmt} : PS X s (tS Γ G .raise) := by
  refine ps_never.imp ?_
  rintro D σ H ⟨ρ, ft, P, a, w, k⟩
  simp only [wpS] at w
theorem ss_if {c : Expr} {cc : E} {p q : List Stmt} {cp cq : Ss} (hc : PT X c (tT Γ G cc)) (hp : PSs X p (tSs Γ G cp)) (hq : PSs X q (tSs Γ G cq)) : PS X (.If c p q pos) (tS Γ G (.ifs cc cp cq)) := by
  refine (ps_if hc hp hq).imp ?_
  rintro D σ H ⟨ρ, ft, P, a, w, k⟩
  simp only [wpS] at w
  refine ⟨ρ, ft, _, a, w, fun b ρ1 H1 w1 e1 s => ?_⟩
  have kl := k.later (Grow.of s) (Kp.refl (asgS (.ifs cc cp cq)) (grwS (.ifs cc cp cq)) σ ft)
  cases b with
  | true =>
    rw [if_pos rfl] at w1
    show tSs Γ G cp D σ H1
    exact ⟨ρ1, ft, P, a.next e1, w1, kl.sub (fun x h => by rw [asgS]; exact List.mem_append_left _ h) (fun x h => by rw [grwS]; exact List.mem_append_left _ h)⟩
  | false =>
    rw [if_neg Bool.false_ne_true] at w1
    show tSs Γ G cq D σ H1
    exact ⟨ρ1, ft, P, a.next e1, w1, kl.sub (fun x h => by rw [asgS]; exact List.mem_append_right _ h) (fun x h => by rw [grwS]; exact List.mem_append_right _ h)⟩
theorem ss_thru {h₀ : ExceptHandler} {hs : List ExceptHandler} {body : List Stmt} {cb : Ss} (hb : PSs X.nox body (tSs Γ G cb)) : PS X (.Try body (h₀ :: hs) [] [] pos) (tS Γ G (.thru cb)) := by
  refine (ps_try_thru0 hb).imp ?_
  rintro D σ H ⟨ρ, ft, P, a, w, k⟩
  simp only [wpS] at w
  exact ⟨ρ, ft, P, a, w, k.sub (fun x h => by rw [asgS]; exact h) (fun x h => by rw [grwS]; exact h)⟩
end
end DL

/-! DLm -/
namespace DL
open PySem PySem.Spec PyProof.Rows L2

section
variable {Γ : Gam} {G : Cxt} {lv : Nat} {X : Cx} {pos : Pos} {a b : Expr} {ca cb : E} {e : Expr} {ce : E} {σ : L2.St} {H : Hp} {ρ : Env} {ft : Fts}
/-! ## fields are stored -/
theorem FdsR.put_in {H : Hp} {d : D} {v : V} {f : Fn} (r : Rep G H v d) : ∀ {gs : List (Str × V)} {fs : List (Fn × Fd)} {fl : List (Option Addr)} {k : Nat} {g : Fn} {y : D}, FdsR G H gs fs fl → ixOf f fs = some k → fs[k]? = some (g, .val y) → FdsR G H (putF f.str v gs) (fs.set k (f, .val d)) fl
  | (n, u) :: gs, (m, x) :: fs, b :: fl, k, g, y, ⟨e, q, t⟩, h, hk => by
    unfold ixOf at h
    by_cases hf : f = m
    · rw [if_pos hf] at h
      cases h
      subst hf
      subst e
      simp at hk
      obtain ⟨rfl, rfl⟩ := hk
      show FdsR G H (putF f.str v ((f.str, u) :: gs)) ((f, .val d) :: fs) (b :: fl)
      rw [show putF f.str v ((f.str, u) :: gs) = (f.str, v) :: gs from if_pos rfl]
      exact ⟨rfl, ⟨q.1, r⟩, t⟩
    · rw [if_neg hf] at h
      cases q2 : ixOf f fs with
      | none => rw [q2] at h; cases h
      | some j =>
        rw [q2] at h
        have ek : k = j + 1 := (Option.some.inj h).symm
        subst ek
        have hne : ¬ n = f.str := fun z => hf (Fn.inj (by rw [← z, e]))
        rw [show putF f.str v ((n, u) :: gs) = (n, u) :: putF f.str v gs from if_neg hne]
        exact ⟨e, q, FdsR.put_in r t q2 (by simpa using hk)⟩
  | [], [], [], _, _, _, _, h, _ => by unfold ixOf at h; cases h
  | [], [], _ :: _, _, _, _, h, _, _ => h.elim
  | [], _ :: _, _, _, _, _, h, _, _ => h.elim
  | _ :: _, [], _, _, _, _, h, _, _ => h.elim
  | (_, _) :: _, (_, _) :: _, [], _, _, _, h, _, _ => h.elim
theorem FdsR.put_new {H : Hp} {x : Fd} {v : V} {f : Fn} {b0 : Option Addr} (r : FdR G H v x b0) : ∀ {gs : List (Str × V)} {fs : List (Fn × Fd)} {fl : List (Option Addr)}, FdsR G H gs fs fl → ixOf f fs = none → FdsR G H (putF f.str v gs) (fs ++ [(f, x)]) (fl ++ [b0])
  | (n, u) :: gs, (m, y) :: fs, b :: fl, ⟨e, q, t⟩, h => by
    unfold ixOf at h
    by_cases hf : f = m
    · rw [if_pos hf] at h; cases h
    · rw [if_neg hf] at h
      cases q2 : ixOf f fs with
      | some j => rw [q2] at h; cases h
      | none =>
        have hne : ¬ n = f.str := fun z => hf (Fn.inj (by rw [← z, e]))
        rw [show putF f.str v ((n, u) :: gs) = (n, u) :: putF f.str v gs from if_neg hne]
        exact ⟨e, q, FdsR.put_new r t q2⟩
  | [], [], [], _, _ => ⟨rfl, r, trivial⟩
  | [], [], _ :: _, h, _ => h.elim
  | [], _ :: _, _, h, _ => h.elim
  | _ :: _, [], _, h, _ => h.elim
  | (_, _) :: _, (_, _) :: _, [], h, _ => h.elim
theorem FdsR.lens {H : Hp} : ∀ {gs : List (Str × V)} {fs : List (Fn × Fd)} {fl : List (Option Addr)}, FdsR G H gs fs fl → gs.length = fs.length ∧ fl.length = fs.length
  | (n, u) :: gs, (m, y) :: fs, b :: fl, ⟨e, q, t⟩ => by
    have := FdsR.lens t
    exact ⟨by simp [this.1], by simp [this.2]⟩
  | [], [], [], _ => ⟨rfl, rfl⟩
  | [], [], _ :: _, h => h.elim
  | [], _ :: _, _, h => h.elim
  | _ :: _, [], _, h => h.elim
  | (_, _) :: _, (_, _) :: _, [], h => h.elim
/-- an instance is rewritten -/
theorem ins_env (a : At G σ H ρ ft) {i : Nat} {C : Cn} {fs : List (Fn × Fd)} {p dx : Addr} {gs gs' : List (Str × V)} {fs' : List (Fn × Fd)} {f : Ft} {fl' : List (Option Addr)} (h1 : ρ[i]? = some (.ins C fs)) (h2 : σ[i]? = some (some (.ref p))) (h3 : ft[i]? = some f) (hp : f.self = some p) (h4 : H p = some (.ins (G.cl C) dx gs))
    (r : FdsR G H gs' fs' fl') (hl : fs'.length < 900) (hn : (fl'.filterMap id).Nodup) (hf : ∀ q, some q ∈ fl' → q ≠ p ∧ (some q ∈ f.fl ∨ q ∉ adsOf ft)) :
    At G σ (upd H p (.ins (G.cl C) dx gs')) (ρ.set i (.ins C fs')) (ft.set i ⟨some p, fl'⟩) ∧ Step (adsOf ft) H (upd H p (.ins (G.cl C) dx gs')) ∧ (∀ y ∈ adsOf (ft.set i ⟨some p, fl'⟩), y ∈ adsOf ft ∨ some y ∈ fl') := by
  have st : Step [p] H (upd H p (.ins (G.cl C) dx gs')) := Step.ins h4 (by simp)
  have hpm : p ∈ adsOf ft := mem_ads h3 (Ft.self_mem hp)
  have in_fl : ∀ y, y ∈ (Ft.mk (some p) fl').ads → y = p ∨ some y ∈ fl' := fun y hy => by
    unfold Ft.ads at hy
    rcases List.mem_append.mp hy with z | z
    · left; simpa using z
    · right
      obtain ⟨o, ho, e⟩ := List.mem_filterMap.mp z
      have : o = some y := e
      rw [this] at ho; exact ho
  refine ⟨⟨?_, ?_⟩, Step.ins h4 hpm, fun y hy => (ads_set y hy).elim .inl fun z => (in_fl y z).imp (fun e => by rw [e]; exact hpm) id⟩
  · have le := a.env.length
    refine EnvR.of (by rw [List.length_set]; exact le.1) (by rw [List.length_set, List.length_set]; exact le.2) fun j o g x e1 e2 e3 => ?_
    by_cases hj : i = j
    · subst hj
      have hlt : i < ρ.length := (List.getElem?_eq_some_iff.mp h1).1
      rw [List.getElem?_set_self hlt] at e3
      rw [List.getElem?_set_self (by omega)] at e2
      cases e2
      cases e3
      rw [h2] at e1; cases e1
      exact ⟨p, dx, gs', rfl, rfl, upd_same, r.mono st fun q hq z => (hf q hq).1 (by simpa using z), hl⟩
    · rw [List.getElem?_set_ne hj] at e2 e3
      refine (a.env.at_ e1 e2 e3).mono st fun q hq z => ?_
      have : q = p := by simpa using z
      subst this
      exact hj (nd_apart a.nd h3 e2 (Ft.self_mem hp) hq)
  · have n0 : (adsOf (ft.set i ft0)).Nodup := nd_set a.nd (by rw [ads_0]; exact List.nodup_nil) fun y hy => by rw [ads_0] at hy; cases hy
    have out : ∀ y, y ∈ f.ads → y ∉ adsOf (ft.set i ft0) := fun y hy hm => by
      obtain ⟨g, hg, hyg⟩ := List.mem_flatMap.mp hm
      obtain ⟨j, hj⟩ := List.mem_iff_getElem?.mp hg
      by_cases hij : i = j
      · subst hij
        have hlt : i < ft.length := (List.getElem?_eq_some_iff.mp h3).1
        rw [List.getElem?_set_self hlt] at hj
        cases hj
        rw [ads_0] at hyg; cases hyg
      · rw [List.getElem?_set_ne hij] at hj
        exact hij (nd_apart a.nd h3 hj hy hyg)
    have := nd_set (i := i) (g := ⟨some p, fl'⟩) n0 ?_ ?_
    · rw [List.set_set] at this; exact this
    · unfold Ft.ads
      refine List.nodup_append.mpr ⟨by simp, hn, fun y hy z hz e => ?_⟩
      have e1 : y = p := by simpa using hy
      obtain ⟨o, ho, e2⟩ := List.mem_filterMap.mp hz
      have e3 : o = some z := e2
      rw [e3] at ho
      exact (hf z ho).1 (by rw [← e, e1])
    · intro y hy
      rcases in_fl y hy with rfl | hy
      · exact out y (Ft.self_mem hp)
      · rcases (hf y hy).2 with h | h
        · exact out y (Ft.fl_mem h)
        · intro hm
          exact (ads_set y hm).elim h fun z => by rw [ads_0] at z; cases z
theorem nd_one : ∀ {ft : Fts} {f : Ft}, (adsOf ft).Nodup → f ∈ ft → f.ads.Nodup
  | g :: r, f, n, h => by
    unfold adsOf at n
    rw [List.flatMap_cons] at n
    obtain ⟨n1, n2, _⟩ := List.nodup_append.mp n
    rcases List.mem_cons.mp h with rfl | h
    · exact n1
    · exact nd_one (ft := r) n2 h
theorem set_self_of {α : Type} {xs : List α} {i : Nat} {x : α} (h : xs[i]? = some x) : xs.set i x = xs := by
  apply List.ext_getElem?
  intro j
  by_cases e : i = j
  · subst e
    rw [List.getElem?_set_self (List.getElem?_eq_some_iff.mp h).1, h]
  · rw [List.getElem?_set_ne e]
theorem at_ins (a : At G σ H ρ ft) {i : Nat} {C : Cn} {fs : List (Fn × Fd)} (h : ρ[i]? = some (.ins C fs)) : ∃ p dx gs f, σ[i]? = some (some (.ref p)) ∧ ft[i]? = some f ∧ f.self = some p ∧ H p = some (.ins (G.cl C) dx gs) ∧ FdsR G H gs fs f.fl ∧ fs.length < 900 ∧ f.ads.Nodup := by
  obtain ⟨o, f, h1, h2, p, dx, gs, rfl, h3, h4, h5, h6⟩ := a.env.get h
  refine ⟨p, dx, gs, f, h1, h2, h3, h4, h5, h6, ?_⟩
  exact nd_one a.nd (List.mem_of_getElem? h2)
theorem fl_facts {f : Ft} {p : Addr} (hp : f.self = some p) (n : f.ads.Nodup) : (f.fl.filterMap id).Nodup ∧ ∀ q, some q ∈ f.fl → q ≠ p := by
  unfold Ft.ads at n
  rw [hp] at n
  obtain ⟨_, n2, n3⟩ := List.nodup_append.mp n
  refine ⟨n2, fun q hq e => ?_⟩
  exact n3 p (by simp) q (List.mem_filterMap.mpr ⟨some q, hq, rfl⟩) e.symm
theorem ss_fset {i : Nat} {x : Str} {f : Fn} {p q : Pos} (W : Wd Γ G lv X) (hN : X.N[i]? = some x) (hv : Vis X.env.scope x) (hd : (x == ("__debug__" : Str)) = false) (hcd : (x == ("__classdict__" : Str)) = false) (he : PE X e (tE Γ G ce)) (hs : swapsWith e (some (.Attribute (.Name x p) f.str q)) pos.line X.env = pure false) :
    PS X (.Assign [.Attribute (.Name x p) f.str q] e pos) (tS Γ G (.fset i f ce)) := by
  refine (ps_fld (pe_var hN hv hd hcd) he hs).imp ?_
  rintro D σ H ⟨ρ, ft, P, a, w, k⟩
  simp only [wpS] at w
  refine ⟨ρ, ft, _, a, w, fun x ρ1 v H1 fr w1 e1 r n fr1 s => ?_⟩
  have a1 := a.next e1
  split at w1
  · rename_i C fs d h1
    split at w1
    · rename_i j hj
      split at w1
      · rename_i g y hg
        obtain ⟨hc, w1⟩ := w1
        obtain ⟨p, dx, gs, g0, q1, q2, q3, q4, q5, q6, q7⟩ := at_ins a1 h1
        obtain ⟨n1, n2⟩ := fl_facts q3 q7
        have hc' := (Bool.and_eq_true _ _).mp hc
        obtain ⟨c1, c2⟩ := W.cls C (by simpa using hc'.1)
        obtain ⟨z1, z2, z3⟩ := ins_env (fl' := g0.fl) a1 h1 q1 q2 q3 q4 (q5.put_in r.2 hj hg) (by rw [List.length_set]; exact q6) n1 fun q hq => ⟨n2 q hq, .inl hq⟩
        have eg : ft.set i ⟨some p, g0.fl⟩ = ft := by
          have : (⟨some p, g0.fl⟩ : Ft) = g0 := by cases g0; simp only at q3; rw [q3]
          rw [this]
          exact set_self_of q2
        rw [eg] at z1
        refine ⟨.ref p, q1, p, G.cl C, dx, gs, rfl, q4, by rw [W.K]; exact c1, by rw [W.K]; exact c2 f hc'.2, by have := q5.lens; omega, ?_⟩
        exact k.nx _ σ _ ft w1 z1 (Grow.of (s.trans z2)) (Kp.refl _ _ _ _)
      · exact w1.elim
    · exact w1.elim
  · exact w1.elim
theorem ss_fadd {i : Nat} {x : Str} {f : Fn} {p q : Pos} (W : Wd Γ G lv X) (hN : X.N[i]? = some x) (hv : Vis X.env.scope x) (hd : (x == ("__debug__" : Str)) = false) (hcd : (x == ("__classdict__" : Str)) = false) (he : PE X e (tE Γ G ce)) (hs : swapsWith e (some (.Attribute (.Name x p) f.str q)) pos.line X.env = pure false) :
    PS X (.Assign [.Attribute (.Name x p) f.str q] e pos) (tS Γ G (.fadd i f ce)) := by
  refine (ps_fld (pe_var hN hv hd hcd) he hs).imp ?_
  rintro D σ H ⟨ρ, ft, P, a, w, k⟩
  simp only [wpS] at w
  refine ⟨ρ, ft, _, a, w, fun x ρ1 v H1 fr w1 e1 r n fr1 s => ?_⟩
  have a1 := a.next e1
  have ap : ∀ y ∈ fr, y ∉ adsOf ft := apart_of a fr1
  have key : ∀ (C : Cn) (fs : List (Fn × Fd)) (y : Fd) (b0 : Option Addr), ρ1[i]? = some (.ins C fs) → FdR G H1 v y b0 → (∀ q, b0 = some q → q ∈ fr) → ((Γ.cls.contains C && clsFd C f) = true ∧ ixOf f fs = none ∧ fs.length < 800 ∧ P.nx (ρ1.set i (.ins C (fs ++ [(f, y)])))) → tVar i σ H1 fun x H2 => ∃ a C dx fs, x = .ref a ∧ H2 a = some (.ins C dx fs) ∧ Cls X.K C ∧ NoAttr X.K C f.str ∧ fs.length < 1000 ∧ D.nx σ (upd H2 a (.ins C dx (putF f.str v fs))) := by
    intro C fs y b0 h1 hr hb ⟨hc, hx, hlen, w1⟩
    obtain ⟨p, dx, gs, g0, q1, q2, q3, q4, q5, q6, q7⟩ := at_ins a1 h1
    obtain ⟨n1, n2⟩ := fl_facts q3 q7
    have hc' := (Bool.and_eq_true _ _).mp hc
    obtain ⟨c1, c2⟩ := W.cls C (by simpa using hc'.1)
    have hp : p ∈ adsOf ft := mem_ads q2 (Ft.self_mem q3)
    obtain ⟨z1, z2, z3⟩ := ins_env (fl' := g0.fl ++ [b0]) a1 h1 q1 q2 q3 q4 (q5.put_new hr hx) (by rw [List.length_append]; simp; omega) (by
      rw [List.filterMap_append]
      refine List.nodup_append.mpr ⟨n1, by cases b0 <;> simp, fun y hy z hz e => ?_⟩
      obtain ⟨o, ho, e2⟩ := List.mem_filterMap.mp hy
      have e3 : o = some y := e2
      rw [e3] at ho
      have e4 : b0 = some z := by simpa using hz
      exact ap z (hb z e4) (by rw [← e]; exact mem_ads q2 (Ft.fl_mem ho))) fun q hq => by
        rcases List.mem_append.mp hq with h | h
        · exact ⟨n2 q h, .inl h⟩
        · have e4 : b0 = some q := (List.mem_singleton.mp h).symm
          have := ap q (hb q e4)
          exact ⟨fun e => this (by rw [e]; exact hp), .inr this⟩
    refine ⟨.ref p, q1, p, G.cl C, dx, gs, rfl, q4, by rw [W.K]; exact c1, by rw [W.K]; exact c2 f hc'.2, by have := q5.lens; omega, ?_⟩
    refine k.nx _ σ _ _ w1 z1 ⟨s.trans z2, fun y hy => (z3 y hy).elim .inl fun h => ?_⟩ ⟨rfl, fun _ _ => rfl, fun j _ hj => ?_⟩
    · rcases List.mem_append.mp h with h | h
      · exact .inl (mem_ads q2 (Ft.fl_mem h))
      · have e4 : b0 = some y := (List.mem_singleton.mp h).symm
        exact .inr (fr1 y (hb y e4))
    · exact List.getElem?_set_ne fun e => hj (by rw [← e]; simp [grwS])
  split at w1
  · rename_i C fs d h1
    exact key C fs (.val d) none h1 ⟨rfl, r.2⟩ (fun q h => by cases h) w1
  · rename_i C fs ds h1
    obtain ⟨p, vs, rfl, rfl, h2, h3⟩ := r
    exact key C fs (.lst ds) (some p) h1 ⟨p, vs, rfl, rfl, h2, h3⟩ (fun q h => by cases h; simp) w1
  · exact w1.elim
end
end DL

/-! DLn -/
namespace DL
open PySem PySem.Spec PyProof.Rows L2

section
variable {Γ : Gam} {G : Cxt} {lv : Nat} {X : Cx} {pos : Pos}
theorem never_of (hx : X.xe = fun _ _ => False) : PassesOwn (model X.prog X.w) X.A X.env X.xe := by
  rw [hx]; exact PassesOwn.never
theorem addr_keep {ft ft' : Fts} {pl : Pl} (h : ft'[plSlot pl]? = ft[plSlot pl]?) : addrOf ft' pl = addrOf ft pl := by
  cases pl with
  | slot i => simp only [plSlot] at h; simp only [addrOf, h]
  | fld i k => simp only [plSlot] at h; simp only [addrOf, h]
/-- one turn -/
def frStep (Γ : Gam) (p : Pat) (b : Ss) (P : Post) : D → Env → (Env → Prop) → Prop :=
  fun d ρ2 k => wpPat Γ p d ρ2 fun ρ3 => wpSs Γ b ρ3 { nx := k, rt := P.rt, bk := P.nx, ct := k }
theorem ss_for {tg iter : Expr} {body : List Stmt} {p : Pat} {it : It} {cb : Ss} (W : Wd Γ G lv X) (hx : X.xe = fun _ _ => False) (hi : PI X tg iter (tIt Γ G it)) (hg : PG X tg (tPat Γ G p)) (hb : PSs X body (tSs Γ G cb))
    (hs : ∀ x, foldedSetIterable iter X.env x = pure x) : PS X (.For tg iter body [] pos) (tS Γ G (.fr p it cb)) := by
  refine (ps_for (never_of hx) W.calm hi hg hb hs).imp ?_
  rintro D σ H ⟨ρ, ft, P, a, w, k⟩
  simp only [wpS] at w
  refine ⟨ρ, ft, _, a, w, fun its ρ1 H1 J w1 e1 s1 hJ => ?_⟩
  obtain ⟨hpl, w1⟩ := w1
  have w2 : forGo its.pls (frStep Γ p cb P) its.ds ρ1 P.nx := w1
  have k1 := k.later (Grow.of s1) (Kp.refl (asgS (.fr p it cb)) (grwS (.fr p it cb)) σ ft)
  have still_of : ∀ {σ2 : L2.St} {H2 : Hp} {ρ2 : Env} {ft2 : Fts}, At G σ2 H2 ρ2 ft2 → Kp (asgS (.fr p it cb)) (grwS (.fr p it cb)) σ ft σ2 ft2 → still its.pls ρ2 → stillR G H2 ft its.pls := fun {σ2 H2 ρ2 ft2} a2 kp h q hq => by
    obtain ⟨p', vs, h1, h2, h3⟩ := stillR_of a2 h q hq
    refine ⟨p', vs, ?_, h2, h3⟩
    have hm := List.all_eq_true.mp hpl q hq
    have hm2 : plSlot q.1 ∉ pvars p ++ asgSs cb ++ grwSs cb := by simpa using hm
    rw [← h1]
    exact (addr_keep (kp.ft_ _ (fun z => hm2 (by rw [asgS] at z; exact List.mem_append_left _ z)) fun z => hm2 (by rw [grwS] at z; exact List.mem_append_right _ z))).symm
  refine ⟨fun i m σ2 H2 => m = its.ds.length - i ∧ i ≤ its.ds.length ∧ ∃ ρ2 ft2, forGo its.pls (frStep Γ p cb P) (its.ds.drop i) ρ2 P.nx ∧ At G σ2 H2 ρ2 ft2 ∧ Grow ft H1 ft2 H2 ∧ Kp (asgS (.fr p it cb)) (grwS (.fr p it cb)) σ ft σ2 ft2,
    ⟨its.ds.length, rfl, Nat.zero_le _, ρ1, ft, w2, a.next e1, Grow.refl _ _, Kp.refl _ _ _ _⟩, ?_⟩
  rintro i m σ2 H2 ⟨rfl, hi, ρ2, ft2, wg, a2, g2, k2⟩
  by_cases hlt : i < its.ds.length
  · right
    rw [List.drop_eq_getElem_cons hlt] at wg
    obtain ⟨hst, wg⟩ := wg
    obtain ⟨o1, o2⟩ := hJ.go i its.ds[i] H2 g2.step (still_of a2 k2 hst) (List.getElem?_eq_getElem hlt)
    refine ⟨o1, fun σ6 H6 => ∃ ρ6 ft6, forGo its.pls (frStep Γ p cb P) (its.ds.drop (i + 1)) ρ6 P.nx ∧ At G σ6 H6 ρ6 ft6 ∧ Grow ft H1 ft6 H6 ∧ Kp (asgS (.fr p it cb)) (grwS (.fr p it cb)) σ ft σ6 ft6,
      fun σ6 H6 h6 => ⟨its.ds.length - (i + 1), by omega, rfl, hlt, h6⟩, fun x H3 hy => ?_⟩
    obtain ⟨rx, n1⟩ := o2 x H3 hy
    have a3 : At G σ2 H3 ρ2 ft2 := a2.next (a2.env.mono (n1.step : Step [] H2 H3) fun _ _ z => by cases z)
    have g3 : Grow ft H1 ft2 H3 := g2.trans (Grow.of n1.step)
    refine ⟨its.ds[i], ρ2, ft2, _, rx, a3, wg, fun ρ3 σ3 H4 ft3 w3 a4 gr kp => ?_⟩
    have g4 : Grow ft H1 ft3 H4 := g3.trans gr
    have k4 : Kp (asgS (.fr p it cb)) (grwS (.fr p it cb)) σ ft σ3 ft3 := k2.trans ((kp.kp (us := [])).mono (fun x h => by rw [asgS]; exact List.mem_append_left _ h) fun x h => by cases h)
    have k5 := k1.later g4 k4
    have l1 : ∀ x ∈ asgSs cb, x ∈ asgS (.fr p it cb) := fun x h => by rw [asgS]; exact List.mem_append_right _ h
    have l2 : ∀ x ∈ grwSs cb, x ∈ grwS (.fr p it cb) := fun x h => by rw [grwS]; exact h
    refine ⟨ρ3, ft3, _, a4, w3, ⟨fun ρ' σ' H' ft' h a' g' kp' => ?_, fun ev ρ' σ' v H' ft' fr h a' g' kp' => k5.rt ev ρ' σ' v H' ft' fr h a' g' (kp'.mono l1 l2), fun ρ' σ' H' ft' h a' g' kp' => k5.nx ρ' σ' H' ft' h a' g' (kp'.mono l1 l2), fun ρ' σ' H' ft' h a' g' kp' => ?_⟩⟩
    · exact ⟨ρ', ft', h, a', g4.trans g', k4.trans (kp'.mono l1 l2)⟩
    · exact ⟨ρ', ft', h, a', g4.trans g', k4.trans (kp'.mono l1 l2)⟩
  · left
    have hi' : i = its.ds.length := by omega
    subst hi'
    rw [List.drop_length] at wg
    obtain ⟨hst, wg⟩ := wg
    exact ⟨hJ.stop H2 g2.step (still_of a2 k2 hst), k1.nx ρ2 σ2 H2 ft2 wg a2 g2 k2⟩
theorem ss_while {c : Expr} {cc : E} {body : List Stmt} {cb : Ss} (hx : X.xe = fun _ _ => False) (hc : PT X c (tT Γ G cc)) (hb : PSs X body (tSs Γ G cb)) : PS X (.While c body [] pos) (tS Γ G (.whl cc cb)) := by
  refine (ps_while (never_of hx) hc hb).imp ?_
  rintro D σ H ⟨ρ, ft, P, a, w, k⟩
  simp only [wpS] at w
  obtain ⟨V, ⟨m0, v0⟩, turn⟩ := w
  refine ⟨fun m σ2 H2 => ∃ ρ2 ft2, V m ρ2 ∧ At G σ2 H2 ρ2 ft2 ∧ Grow ft H ft2 H2 ∧ Kp (asgS (.whl cc cb)) (grwS (.whl cc cb)) σ ft σ2 ft2, ⟨m0, ρ, ft, v0, a, Grow.refl _ _, Kp.refl _ _ _ _⟩, ?_⟩
  rintro m σ2 H2 ⟨ρ2, ft2, hv, a2, g2, k2⟩
  refine ⟨ρ2, ft2, _, a2, turn m ρ2 hv, fun b ρ3 H3 w3 e3 s3 => ?_⟩
  have a3 := a2.next e3
  have g3 : Grow ft H ft2 H3 := g2.trans (Grow.of s3)
  have k3 := k.later g3 k2
  cases b with
  | false =>
    rw [if_neg Bool.false_ne_true] at w3
    exact k3.nx ρ3 σ2 H3 ft2 w3 a3 (Grow.refl _ _) (Kp.refl _ _ _ _)
  | true =>
    rw [if_pos rfl] at w3
    have l1 : ∀ x ∈ asgSs cb, x ∈ asgS (.whl cc cb) := fun x h => by rw [asgS]; exact h
    have l2 : ∀ x ∈ grwSs cb, x ∈ grwS (.whl cc cb) := fun x h => by rw [grwS]; exact h
    have again : ∀ {ρ' : Env} {σ' : L2.St} {H' : Hp} {ft' : Fts}, (∃ m', m' < m ∧ V m' ρ') → At G σ' H' ρ' ft' → Grow ft2 H3 ft' H' → Kp (asgSs cb) (grwSs cb) σ2 ft2 σ' ft' → ∃ m', m' < m ∧ ∃ ρ2 ft2, V m' ρ2 ∧ At G σ' H' ρ2 ft2 ∧ Grow ft H ft2 H' ∧ Kp (asgS (.whl cc cb)) (grwS (.whl cc cb)) σ ft σ' ft2 :=
      fun {ρ' σ' H' ft'} ⟨m', hm, hv'⟩ a' g' kp' => ⟨m', hm, ρ', ft', hv', a', g3.trans g', k2.trans (kp'.mono l1 l2)⟩
    refine ⟨fun σ' H' => ∃ m', m' < m ∧ ∃ ρ2 ft2, V m' ρ2 ∧ At G σ' H' ρ2 ft2 ∧ Grow ft H ft2 H' ∧ Kp (asgS (.whl cc cb)) (grwS (.whl cc cb)) σ ft σ' ft2, fun _ _ h => h, ?_⟩
    refine ⟨ρ3, ft2, _, a3, w3, ⟨fun ρ' σ' H' ft' h a' g' kp' => again h a' g' kp', fun ev ρ' σ' v H' ft' fr h a' g' kp' => k3.rt ev ρ' σ' v H' ft' fr h a' g' (kp'.mono l1 l2), fun ρ' σ' H' ft' h a' g' kp' => k3.nx ρ' σ' H' ft' h a' g' (kp'.mono l1 l2), fun ρ' σ' H' ft' h a' g' kp' => again h a' g' kp'⟩⟩
end
end DL

/-! DLo -/
namespace DL
open PySem PySem.Spec PyProof.Rows L2

/-! ## defs -/
@[simp ↓, simp] def isV : Sl → Bool
  | .fd (.val _) => true
  | .non => true
  | _ => false
/-- the arguments behind a call -/
def ssOf : List Sl → Env → List Sl
  | s :: ss, t :: ρ => (if isV s = true then s else t) :: ssOf ss ρ
  | _, _ => []
def outOf (np : Nat) (ρ : Env) : Ev → Option Fd
  | .val d => some (.val d)
  | .tmp ds => some (.lst ds)
  | .at_ (.slot i) => if np ≤ i then (match ρ[i]? with
    | some (.fd (.lst ds)) => some (.lst ds)
    | _ => none) else none
  | _ => none
/-- an argument that is not data keeps its place -/
@[simp ↓, simp] def mutOk (c : Ss) (k : Nat) : List Sl → Prop
  | [] => True
  | s :: ss => (isV s = true ∨ ((asgSs c ++ grwSs c).contains k) = false) ∧ mutOk c (k + 1) ss
def rtS (np : Nat) (ss : List Sl) (R : Fd → List Sl → Prop) : Post := { nx := fun ρ' => R (.val .non) (ssOf ss ρ'), rt := fun ev ρ' => match outOf np ρ' ev with
  | some r => R r (ssOf ss ρ')
  | none => False }
def envS (n : Nat) (ss : List Sl) : Env := ss ++ List.replicate (n - ss.length) .non
structure Body (Γ : Gam) (n np : Nat) (c : Ss) (S : Spec) : Prop where
  ok : ∀ ss R, S ss R → ss.length = np ∧ mutOk c 0 ss ∧ wpSs Γ c (envS n ss) (rtS np ss R)
theorem ssOf_length : ∀ (ss : List Sl) (ρ : Env), ss.length ≤ ρ.length → (ssOf ss ρ).length = ss.length
  | [], _, _ => rfl
  | s :: ss, [], h => by simp at h
  | s :: ss, t :: ρ, h => by
    show (ssOf ss ρ).length + 1 = _
    rw [ssOf_length ss ρ (by simpa using h)]; rfl
theorem ssOf_get : ∀ {ss : List Sl} {ρ : Env} {i : Nat} {x : Sl}, (ssOf ss ρ)[i]? = some x → ∃ s t, ss[i]? = some s ∧ ρ[i]? = some t ∧ x = if isV s = true then s else t
  | [], _, _, _, h => by simp [ssOf] at h
  | _ :: _, [], _, _, h => by simp [ssOf] at h
  | s :: ss, t :: ρ, 0, x, h => by
    simp [ssOf] at h
    exact ⟨s, t, rfl, rfl, h.symm⟩
  | s :: ss, t :: ρ, i + 1, x, h => by
    obtain ⟨s', t', h1, h2, h3⟩ := ssOf_get (ss := ss) (ρ := ρ) (i := i) (by simpa [ssOf] using h)
    exact ⟨s', t', by simpa using h1, by simpa using h2, h3⟩
theorem mutOk_get {c : Ss} : ∀ {ss : List Sl} {k i : Nat} {s : Sl}, mutOk c k ss → ss[i]? = some s → isV s = true ∨ (k + i ∉ asgSs c ∧ k + i ∉ grwSs c)
  | s0 :: ss, k, 0, s, h, e => by
    simp at e; subst e
    refine h.1.imp id fun z => ?_
    have : ¬ (k ∈ asgSs c ++ grwSs c) := by simpa using z
    exact ⟨fun q => this (List.mem_append_left _ q), fun q => this (List.mem_append_right _ q)⟩
  | s0 :: ss, k, i + 1, s, h, e => by
    have := mutOk_get (k := k + 1) (i := i) h.2 (by simpa using e)
    rw [show k + (i + 1) = k + 1 + i by omega]
    exact this
  | [], _, _, _, _, e => by simp at e
section
variable {Γ : Gam} {G : Cxt} {lv : Nat} {X : Cx}
theorem EnvR.append {H : Hp} : ∀ {σ σ2 : L2.St} {ρ ρ2 : Env} {ft ft2 : Fts}, EnvR G H σ ρ ft → EnvR G H σ2 ρ2 ft2 → EnvR G H (σ ++ σ2) (ρ ++ ρ2) (ft ++ ft2)
  | [], _, [], _, [], _, _, h => h
  | _ :: _, _, _ :: _, _, _ :: _, _, ⟨a, t⟩, h => ⟨a, EnvR.append t h⟩
  | [], _, [], _, _ :: _, _, h, _ => h.elim
  | [], _, _ :: _, _, _, _, h, _ => h.elim
  | _ :: _, _, [], _, _, _, h, _ => h.elim
  | _ :: _, _, _ :: _, _, [], _, h, _ => h.elim
theorem EnvR.nons {H : Hp} : ∀ n : Nat, EnvR G H (List.replicate n none) (List.replicate n .non) (List.replicate n ft0)
  | 0 => trivial
  | n + 1 => ⟨rfl, EnvR.nons n⟩
theorem ads_nons : ∀ n : Nat, adsOf (List.replicate n ft0) = []
  | 0 => rfl
  | n + 1 => by rw [List.replicate_succ]; unfold adsOf; rw [List.flatMap_cons, ads_0]; exact ads_nons n
theorem ads_app (a b : Fts) : adsOf (a ++ b) = adsOf a ++ adsOf b := by unfold adsOf; rw [List.flatMap_append]
theorem At.start {vs : List V} {ss : List Sl} {ft : Fts} {H : Hp} {N : List Str} (a : At G (vs.map some) H ss ft) : At G (L2.start N vs) H (envS N.length ss) (ft ++ List.replicate (N.length - vs.length) ft0) := by
  have l := a.env.length
  rw [List.length_map] at l
  refine ⟨?_, ?_⟩
  · unfold L2.start envS
    rw [← l.1]
    exact a.env.append (EnvR.nons _)
  · rw [ads_app, ads_nons, List.append_nil]
    exact a.nd
/-- what a slot owns at the end is its own, or new -/
theorem excl {ft ft' : Fts} {H H' : Hp} (g : Grow ft H ft' H') (nd' : (adsOf ft').Nodup) {i : Nat} {f' : Ft} (h : ft'[i]? = some f') (hk : ∀ j f, j ≠ i → ft[j]? = some f → f.ads ≠ [] → ft'[j]? = some f) : ∀ a ∈ f'.ads, (∃ f, ft[i]? = some f ∧ a ∈ f.ads) ∨ H a = none := fun a ha => by
  rcases g.ads a (mem_ads h ha) with q | q
  · obtain ⟨f, hf, hm⟩ := List.mem_flatMap.mp q
    obtain ⟨j, hj⟩ := List.mem_iff_getElem?.mp hf
    by_cases e : j = i
    · subst e; exact .inl ⟨f, hj, hm⟩
    · have := hk j f e hj fun z => by rw [z] at hm; cases hm
      exact absurd (nd_apart nd' this h hm ha) e
  · exact .inr q
theorem val_ads {H : Hp} {o : Option V} {f : Ft} {s : Sl} (h : isV s = true) (r : SlR G H o f s) : f.ads = [] := by
  cases s with
  | non => rw [show f = ft0 from r]; rfl
  | ins C fs => cases h
  | fd x =>
    cases x with
    | lst ds => cases h
    | val d =>
      obtain ⟨v, _, ⟨e, _⟩, z⟩ := r
      unfold Ft.ads
      rw [e, z]; rfl
theorem val_step {H H' : Hp} {F : List Addr} {o : Option V} {f : Ft} {s : Sl} (h : isV s = true) (st : Step F H H') (r : SlR G H o f s) : SlR G H' o f s := r.mono st fun p hp => by rw [val_ads h r] at hp; cases hp
/-- the end of a def's body -/
theorem body_end {c : Ss} {vs : List V} {ss : List Sl} {ft : Fts} {H : Hp} {N : List Str} {σ' : L2.St} {H' : Hp} {ρ' : Env} {ft' : Fts} (hN : vs.length ≤ N.length) (a : At G (vs.map some) H ss ft) (hm : mutOk c 0 ss) (a' : At G σ' H' ρ' ft') (g : Grow (ft ++ List.replicate (N.length - vs.length) ft0) H ft' H')
    (k : Kp (asgSs c) (grwSs c) (L2.start N vs) (ft ++ List.replicate (N.length - vs.length) ft0) σ' ft') : EnvR G H' (vs.map some) (ssOf ss ρ') ft ∧ Step (adsOf ft) H H' ∧ (∀ (i : Nat) (s : Sl) (f : Ft), ss[i]? = some s → isV s = false → ft[i]? = some f → ft'[i]? = some f) := by
  have l := a.env.length
  rw [List.length_map] at l
  have l' := a'.env.length
  have ls : (L2.start N vs).length = N.length := by unfold L2.start; rw [List.length_append, List.length_map, List.length_replicate]; omega
  have st : Step (adsOf ft) H H' := by
    have := g.step
    rw [ads_app, ads_nons, List.append_nil] at this
    exact this
  have same : ∀ (i : Nat) (s : Sl) (f : Ft), ss[i]? = some s → isV s = false → ft[i]? = some f → ft'[i]? = some f := fun i s f h1 h2 h3 => by
    have hm' := (mutOk_get hm h1).resolve_left (by rw [h2]; exact Bool.false_ne_true)
    rw [Nat.zero_add] at hm'
    rw [k.ft_ i hm'.1 hm'.2, List.getElem?_append_left (List.getElem?_eq_some_iff.mp h3).1]
    exact h3
  refine ⟨?_, st, same⟩
  have le : ss.length ≤ ρ'.length := by have := k.len; omega
  refine EnvR.of (by rw [List.length_map, ssOf_length _ _ le]; exact l.1) (by rw [ssOf_length _ _ le]; exact l.2) fun i o f x e1 e2 e3 => ?_
  obtain ⟨s, t, h1, h2, rfl⟩ := ssOf_get e3
  cases hv : isV s with
  | true =>
    rw [if_pos rfl]
    exact val_step hv st (a.env.at_ e1 e2 h1)
  | false =>
    rw [if_neg Bool.false_ne_true]
    have hm' := (mutOk_get hm h1).resolve_left (by rw [hv]; exact Bool.false_ne_true)
    rw [Nat.zero_add] at hm'
    have eσ : σ'[i]? = some o := by
      rw [k.at_ i hm'.1]
      unfold L2.start
      rw [List.getElem?_append_left (List.getElem?_eq_some_iff.mp e1).1]
      exact e1
    exact a'.env.at_ eσ (same i s f h1 hv e2) h2
/-- what the world of a text gives -/
structure Wo (Γ : Gam) (G : Cxt) (P : Program) (w : World) (base : Heap) (lv : Nat) : Prop where
  fn : ∀ p ∈ Γ.fn, Has P w base G lv p.1 p.2
  cst : ∀ p ∈ Γ.cst, ∃ v u, G.mg p.1 = some u ∧ RelV v u ∧ ∀ H, Rep G H v p.2
  ini : ∀ p ∈ Γ.ini, HasI P w base G lv p.1 p.2.1 p.2.2
  met : ∀ p ∈ Γ.met, HasM P w base G lv p.1 p.2.1 p.2.2
  cls : ∀ C ∈ Γ.cls, Cls G.K (G.cl C) ∧ ∀ f, clsFd C f = true → NoAttr G.K (G.cl C) f.str
  blt : ∀ x ∈ bnames, G.mg x = none
theorem Wo.wd {P : Program} {w : World} {base : Heap} (W : Wo Γ G P w base lv) (h1 : X.K = G.K) (h2 : X.mg = G.mg) (h3 : X.calm = true) (h4 : X.N.Nodup) (h5 : Room (lv + 1) X.A) (h6 : X.prog = P) (h7 : X.w = w) (h8 : X.base = base) : Wd Γ G lv X := by
  subst h6 h7 h8
  exact ⟨h1, h2, h3, h4, h5, W.fn, W.cst, W.ini, W.met, W.cls, W.blt⟩
/-- a body's context -/
structure Top (Γ : Gam) (G : Cxt) (lv : Nat) (N : List Str) (sc : Scope) (X : Cx) : Prop where
  wd : Wd Γ G lv X
  N : X.N = N
  sc : X.env.scope = sc
  fn : ∀ x, X.fn x = true
  xe : X.xe = fun _ _ => False
theorem fn_ok {P : Program} {w : World} {base : Heap} {S : Spec} {x qual : Str} {st : Stmt} {f : Addr} {fd : FuncData} {N ps : List Str} {c : Ss} (W : Wo Γ G P w base lv) (F : FunD G.K x qual (defArgs st) (defBody st) (defScope st) [] [] f fd) (SC : FnScope N ps (defScope st))
    (hc : ∀ X, Top Γ G lv N (defScope st) X → PSs X (defBody st) (tSs Γ G c)) (hb : Body Γ N.length ps.length c S) : FnOk P w G.K G.mg base CX0 (lv + 2) f fd ps (spOf G S) := by
  have hpl : ps.length ≤ N.length := by have := congrArg List.length SC.pre; rw [List.length_take] at this; omega
  refine F.ok SC (fun vs H Q E h => ?_) fun cdv A outer s H vs Q E hr h => ?_
  · obtain ⟨ss, ft, R, a, hS, _⟩ := h
    have := a.env.length
    rw [List.length_map] at this
    rw [this.1]; exact (hb.ok ss R hS).1
  · refine ⟨_, (hc _ ⟨W.wd rfl rfl rfl SC.nd hr rfl rfl rfl, rfl, rfl, fun _ => rfl, rfl⟩).nox, ?_⟩
    obtain ⟨ss, ft, R, a, hS, k⟩ := h
    obtain ⟨h1, h2, h3⟩ := hb.ok ss R hS
    have l := a.env.length
    rw [List.length_map] at l
    have hN : vs.length ≤ N.length := by omega
    refine ⟨_, _, _, a.start (N := N), h3, ⟨fun ρ' σ' H' ft' w' a' g' k' => ?_, fun ev ρ' σ' v H' ft' fr w' a' g' k' r n fresh ap => ?_, fun _ _ _ _ z => z.elim, fun _ _ _ _ z => z.elim⟩⟩
    · obtain ⟨e1, e2, _⟩ := body_end hN a h2 a' g' k'
      exact k (.val .non) _ .non H' none w' e1 ⟨rfl, .non⟩ (fun p z => by cases z) e2
    · obtain ⟨e1, e2, e3⟩ := body_end hN a h2 a' g' k'
      have w2 : (match outOf ps.length ρ' ev with
        | some r => R r (ssOf ss ρ')
        | none => False) := w'
      cases ev with
      | val d => exact k (.val d) _ v H' none w2 e1 ⟨rfl, r.2⟩ (fun p z => by cases z) e2
      | tmp ds =>
        obtain ⟨p, ws, rfl, rfl, q1, q2⟩ := r
        exact k (.lst ds) _ (.ref p) H' (some p) w2 e1 ⟨p, ws, rfl, rfl, q1, q2⟩ (fun p' z => by cases z; exact fresh p (by simp)) e2
      | obj C fs => exact w2.elim
      | at_ pl =>
        cases pl with
        | fld i j => exact w2.elim
        | slot i =>
          by_cases hi : ps.length ≤ i
          · simp only [outOf, if_pos hi] at w2
            cases hρ : ρ'[i]? with
            | none => simp only [hρ] at w2
            | some s =>
              simp only [hρ] at w2
              cases s with
              | non => exact w2.elim
              | ins C fs => exact w2.elim
              | fd y =>
                cases y with
                | val d => exact w2.elim
                | lst ds =>
                  have hl : lstAt ρ' (.slot i) = some ds := by simp only [lstAt, hρ]
                  obtain ⟨q, ws, rfl, _, q1, q2⟩ := a'.lst hl r
                  refine k (.lst ds) _ (.ref q) H' (some q) w2 e1 ⟨q, ws, rfl, rfl, q1, q2⟩ (fun p' z => ?_) e2
                  cases z
                  obtain ⟨_, f', q', hf, hs, hv⟩ := r
                  cases hv
                  refine (excl g' a'.nd hf (fun j f0 hj hf0 hne => ?_) q (Ft.self_mem hs)).resolve_left fun ⟨f0, hf0, hq0⟩ => ?_
                  · by_cases hjl : j < ft.length
                    · rw [List.getElem?_append_left hjl] at hf0
                      have hjs : j < ss.length := by omega
                      have hs' : ss[j]? = some ss[j] := List.getElem?_eq_getElem hjs
                      cases hv : isV ss[j] with
                      | true =>
                        have hjv : j < (vs.map some).length := by rw [List.length_map]; omega
                        exact absurd (val_ads hv (a.env.at_ (List.getElem?_eq_getElem hjv) hf0 hs')) hne
                      | false => exact e3 j _ f0 hs' hv hf0
                    · rw [List.getElem?_append_right (by omega)] at hf0
                      have := List.mem_of_getElem? hf0
                      rw [(List.mem_replicate.mp this).2] at hne
                      exact absurd ads_0 hne
                  · rw [List.getElem?_append_right (by omega)] at hf0
                    have := List.mem_of_getElem? hf0
                    rw [(List.mem_replicate.mp this).2, ads_0] at hq0
                    cases hq0
          · simp only [outOf, if_neg hi] at w2
/-- .. of an __init__ -/
def rtI (C : Cn) (ss : List Sl) (R : List (Fn × Fd) → List Sl → Prop) : Post := ⟨fun ρ' => (match ρ' with
  | .ins C' fs :: r => C' = C ∧ R fs (ssOf ss r)
  | _ => False), fun _ _ => False, fun _ => False, fun _ => False⟩
structure BodyI (Γ : Gam) (C : Cn) (n np : Nat) (c : Ss) (S : ISpec) : Prop where
  ok : ∀ ss R, S ss R → ss.length + 1 = np ∧ (asgSs c).contains 0 = false ∧ mutOk c 1 ss ∧ wpSs Γ c (envS n (.ins C [] :: ss)) (rtI C ss R)
theorem body_endI {c : Ss} {C : Cn} {p : Addr} {vs : List V} {ss : List Sl} {ft : Fts} {H : Hp} {N : List Str} {σ' : L2.St} {H' : Hp} {ρ' : Env} {fs : List (Fn × Fd)} {ft' : Fts} (hN : vs.length + 1 ≤ N.length) (a : At G (vs.map some) H ss ft) (hp : p ∉ adsOf ft) (h0 : (asgSs c).contains 0 = false) (hm : mutOk c 1 ss) (a' : At G σ' H' (.ins C fs :: ρ') ft') (g : Grow (⟨some p, []⟩ :: (ft ++ List.replicate (N.length - (vs.length + 1)) ft0)) H ft' H')
    (k : Kp (asgSs c) (grwSs c) (L2.start N (.ref p :: vs)) (⟨some p, []⟩ :: (ft ++ List.replicate (N.length - (vs.length + 1)) ft0)) σ' ft') : EnvR G H' (vs.map some) (ssOf ss ρ') ft ∧ Step (p :: adsOf ft) H H' ∧ ∃ f, SlR G H' (some (.ref p)) f (.ins C fs) ∧ f.self = some p ∧ (∀ a ∈ f.ads, a = p ∨ H a = none) ∧ f.ads.Nodup := by
  have l := a.env.length
  rw [List.length_map] at l
  have l' := a'.env.length
  have ls : (L2.start N (.ref p :: vs)).length = N.length := by unfold L2.start; rw [List.length_append, List.length_map, List.length_replicate, List.length_cons]; omega
  have eads : adsOf (⟨some p, []⟩ :: (ft ++ List.replicate (N.length - (vs.length + 1)) ft0)) = p :: adsOf ft := by
    show adsOf ([⟨some p, []⟩] ++ (ft ++ List.replicate (N.length - (vs.length + 1)) ft0)) = _
    rw [ads_app, ads_app, ads_nons, List.append_nil]; rfl
  have st : Step (p :: adsOf ft) H H' := by
    have := g.step
    rw [eads] at this
    exact this
  have same : ∀ (i : Nat) (s : Sl) (f : Ft), ss[i]? = some s → isV s = false → ft[i]? = some f → ft'[i + 1]? = some f := fun i s f h1 h2 h3 => by
    have hm' := (mutOk_get hm h1).resolve_left (by rw [h2]; exact Bool.false_ne_true)
    rw [Nat.add_comm 1 i] at hm'
    rw [k.ft_ (i + 1) hm'.1 hm'.2, List.getElem?_cons_succ, List.getElem?_append_left (List.getElem?_eq_some_iff.mp h3).1]
    exact h3
  have le : ss.length ≤ ρ'.length := by have := k.len; rw [List.length_cons] at l'; omega
  have h00 : 0 ∉ asgSs c := by simpa using h0
  have e0 : σ'[0]? = some (some (.ref p)) := by
    rw [k.at_ 0 h00]; rfl
  refine ⟨?_, st, ?_⟩
  · refine EnvR.of (by rw [List.length_map, ssOf_length _ _ le]; exact l.1) (by rw [ssOf_length _ _ le]; exact l.2) fun i o f x e1 e2 e3 => ?_
    obtain ⟨s, t, h1, h2, rfl⟩ := ssOf_get e3
    cases hv : isV s with
    | true =>
      rw [if_pos rfl]
      exact val_step hv st (a.env.at_ e1 e2 h1)
    | false =>
      rw [if_neg Bool.false_ne_true]
      have hm' := (mutOk_get hm h1).resolve_left (by rw [hv]; exact Bool.false_ne_true)
      rw [Nat.add_comm 1 i] at hm'
      have eσ : σ'[i + 1]? = some o := by
        rw [k.at_ (i + 1) hm'.1]
        unfold L2.start
        rw [List.map_cons, List.cons_append, List.getElem?_cons_succ, List.getElem?_append_left (List.getElem?_eq_some_iff.mp e1).1]
        exact e1
      exact a'.env.at_ eσ (same i s f h1 hv e2) (by simpa using h2)
  · obtain ⟨o, f, e1, e2, r⟩ := a'.env.get (i := 0) (s := .ins C fs) rfl
    rw [e0] at e1; cases e1
    have hs : f.self = some p := by
      obtain ⟨q, dx, gs, z1, z2, _⟩ := r
      cases z1; exact z2
    refine ⟨f, r, hs, fun y hy => ?_, nd_one a'.nd (List.mem_of_getElem? e2)⟩
    refine (excl g a'.nd e2 (fun j f0 hj hf0 hne => ?_) y hy).imp (fun ⟨f0, hf0, hy0⟩ => ?_) id
    · cases j with
      | zero => exact absurd rfl hj
      | succ j =>
        rw [List.getElem?_cons_succ] at hf0
        by_cases hjl : j < ft.length
        · rw [List.getElem?_append_left hjl] at hf0
          have hjs : j < ss.length := by omega
          have hs' : ss[j]? = some ss[j] := List.getElem?_eq_getElem hjs
          cases hv : isV ss[j] with
          | true =>
            have hjv : j < (vs.map some).length := by rw [List.length_map]; omega
            exact absurd (val_ads hv (a.env.at_ (List.getElem?_eq_getElem hjv) hf0 hs')) hne
          | false => exact same j _ f0 hs' hv hf0
        · rw [List.getElem?_append_right (by omega)] at hf0
          have := List.mem_of_getElem? hf0
          rw [(List.mem_replicate.mp this).2] at hne
          exact absurd ads_0 hne
    · have : f0 = ⟨some p, []⟩ := by simpa using hf0.symm
      rw [this] at hy0
      simpa [Ft.ads] using hy0
theorem fnI_ok {P : Program} {w : World} {base : Heap} {C : Cn} {S : ISpec} {x qual : Str} {st : Stmt} {f : Addr} {fd : FuncData} {N ps : List Str} {c : Ss} (W : Wo Γ G P w base lv) (F : FunD G.K x qual (defArgs st) (defBody st) (defScope st) [] [] f fd) (SC : FnScope N ps (defScope st))
    (hc : ∀ X, Top Γ G lv N (defScope st) X → PSs X (defBody st) (tSs Γ G c)) (hb : BodyI Γ C N.length ps.length c S) : FnOk P w G.K G.mg base CX0 (lv + 2) f fd ps (spI G C S) := by
  have hpl : ps.length ≤ N.length := by have := congrArg List.length SC.pre; rw [List.length_take] at this; omega
  refine F.ok SC (fun vs H Q E h => ?_) fun cdv A outer s H vs Q E hr h => ?_
  · obtain ⟨p, dx, ws, ss, ft, R, rfl, _, a, _, hS, _⟩ := h
    have := a.env.length
    rw [List.length_map] at this
    rw [List.length_cons, this.1]; exact (hb.ok ss R hS).1
  · refine ⟨_, (hc _ ⟨W.wd rfl rfl rfl SC.nd hr rfl rfl rfl, rfl, rfl, fun _ => rfl, rfl⟩).nox, ?_⟩
    obtain ⟨p, dx, ws, ss, ft, R, rfl, hH, a, hp, hS, k⟩ := h
    obtain ⟨h1, h0, h2, h3⟩ := hb.ok ss R hS
    have l := a.env.length
    rw [List.length_map] at l
    have hN : ws.length + 1 ≤ N.length := by omega
    have a0 : At G (L2.start N (.ref p :: ws)) H (envS N.length (.ins C [] :: ss)) (⟨some p, []⟩ :: (ft ++ List.replicate (N.length - (ws.length + 1)) ft0)) := by
      refine ⟨?_, ?_⟩
      · unfold L2.start envS
        rw [List.length_cons, List.length_cons, ← l.1]
        exact ⟨⟨p, dx, [], rfl, rfl, hH, trivial, by simp⟩, a.env.append (EnvR.nons _)⟩
      · show (adsOf ([⟨some p, []⟩] ++ (ft ++ List.replicate (N.length - (ws.length + 1)) ft0))).Nodup
        rw [ads_app, ads_app, ads_nons, List.append_nil]
        exact List.nodup_cons.mpr ⟨hp, a.nd⟩
    refine ⟨_, _, _, a0, h3, ⟨fun ρ' σ' H' ft' w' a' g' k' => ?_, fun ev ρ' σ' v H' ft' fr w' a' g' k' r n fresh ap => w'.elim, fun _ _ _ _ z => z.elim, fun _ _ _ _ z => z.elim⟩⟩
    cases ρ' with
    | nil => exact w'.elim
    | cons s0 r0 =>
      cases s0 with
      | non => exact w'.elim
      | fd y => exact w'.elim
      | ins C' fs =>
        obtain ⟨rfl, w'⟩ := w'
        obtain ⟨e1, e2, f', e3, e4, e5, e6⟩ := body_endI hN a hp h0 h2 a' g' k'
        exact k fs _ H' f' w' e1 e3 e4 e5 e6 e2
end
end DL

/-! DLp -/
namespace DL
open PySem PySem.Spec PyProof.Rows L2

/-! ## the text against its core -/
structure Ck where
  N : List Str
  sc : Scope
  blk : Option Scope
  nf : List Str
  nc : List Str
  ni : List (Cn × Str)
  nm : List (Cn × Str)
def visB (k : Ck) (x : Str) : Bool := match k.sc.names.lookup x with
  | some .local => true
  | some .cell => true
  | some .free => true
  | _ => false
def locB (k : Ck) (x : Str) : Bool := match k.sc.names.lookup x with
  | some .local => true
  | some .cell => true
  | _ => false
def stoB (k : Ck) (x : Str) : Bool := match k.blk with
  | none => true
  | some s => (s.names.lookup x == some .cell) || decide (k.sc.names.lookup x = some .local)
def dbgB (x : Str) : Bool := !(x == ("__debug__" : Str))
def varB (k : Ck) (i : Nat) (x : Str) : Bool := decide (k.N[i]? = some x) && visB k x && dbgB x && !(x == ("__classdict__" : Str))
def glB (k : Ck) (x : Str) : Bool := decide (k.sc.names.lookup x = some .globalImplicit)
def notStar : Expr → Bool
  | .Starred _ _ => false
  | _ => true
def notSlice : Expr → Bool
  | .Slice _ _ _ _ => false
  | _ => true
def notSet : Expr → Bool
  | .Set _ _ _ => false
  | _ => true
def notComp : Expr → Bool
  | .ListComp _ _ _ _ => false
  | .SetComp _ _ _ _ => false
  | .DictComp _ _ _ _ _ => false
  | _ => true
def isTup : Expr → Bool
  | .Tuple _ _ _ => true
  | _ => false
/-- a test that is asked as a value, or a comparison -/
def tstB : Expr → Bool
  | .Name _ _ => true
  | .Call _ _ _ _ => true
  | .Attribute _ _ _ => true
  | .Subscript _ _ _ => true
  | .Constant _ _ _ => true
  | .Compare _ _ _ _ => true
  | .UnaryOp .Not x _ => tstB x
  | _ => false
def unB : Expr → Expr
  | .BoolOp _ [y] _ => y
  | e => e
def ckCst : D → Expr → Bool
  | .non, .Constant .none _ _ => true
  | .bl b, .Constant (.bool c) _ _ => b == c
  | .int i, .Constant (.int j) _ _ => decide (i = j)
  | .str s, .Constant (.str t) _ _ => decide (s = t)
  | _, _ => false
def ckVar (k : Ck) (i : Nat) : Expr → Bool
  | .Name x _ => varB k i x
  | _ => false
def ckPn (k : Ck) : Pn → Expr → Bool
  | .var i, e => ckVar k i e
  | .fld i f, .Attribute o n _ => ckVar k i o && decide (n = f.str)
  | _, _ => false
/-- a block's own names -/
def ownB (k : Ck) (scope : Scope) (own : List Nat) : Bool :=
  decide (scope.kind = .function) && scope.names.all (fun y => decide (scope.names.lookup y.1 = some y.2) && (if y.2 = .free then decide (k.sc.names.lookup y.1 = some .cell ∨ k.sc.names.lookup y.1 = some .free) else if y.2 = .local ∨ y.2 = .cell then (own.any fun i => decide (k.N[i]? = some y.1)) || !k.N.contains y.1 else true)) && own.all fun i => decide (i < k.N.length)
def Ck.into (k : Ck) (scope : Scope) : Ck := { k with sc := relS scope k.sc, blk := some scope }
def ckLine (a b : Pos) : Bool := a.endLine == b.line
mutual
def ckE : E → Ck → Expr → Bool
  | .var i, k, e => ckVar k i e
  | .cst d, _, e => ckCst d e
  | .glb j, k, e => (match e with
    | .Name x _ => decide (k.nc[j]? = some x) && glB k x && dbgB x
    | _ => false)
  | .bin o a b, k, e => (match e with
    | .BinOp l op r _ => decide (op = bop o) && ckE a k l && ckE b k r
    | _ => false)
  | .neg a, k, e => (match e with
    | .UnaryOp .USub x _ => ckE a k x
    | _ => false)
  | .cmp o a b, k, e => (match e with
    | .Compare l [c] [r] _ => decide (c = cop o) && ckE a k l && ckE b k r
    | _ => false)
  | .chn o o' a b c, k, e => (match e with
    | .Compare l [c1, c2] [r1, r2] _ => decide (c1 = cop o) && decide (c2 = cop o') && ckE a k l && ckE b k r1 && ckE c k r2
    | _ => false)
  | .chn3 o o' o'' a b c d, k, e => (match e with
    | .Compare l [c1, c2, c3] [r1, r2, r3] _ => decide (c1 = cop o) && decide (c2 = cop o') && decide (c3 = cop o'') && ckE a k l && ckE b k r1 && ckE c k r2 && ckE d k r3
    | _ => false)
  | .isN p a, k, e => (match e with
    | .Compare l [c] [.Constant .none _ _] _ => decide (c = isop p) && ckE a k l
    | _ => false)
  | .inn p a b, k, e => (match e with
    | .Compare l [c] [r] _ => decide (c = inop p) && notSet r && ckE a k l && ckE b k r
    | _ => false)
  | .and a b, k, e => (match e with
    | .BoolOp .And (x :: y :: r) pos => ckE a k x && ckE b k (unB (.BoolOp .And (y :: r) pos))
    | _ => false)
  | .or a b, k, e => (match e with
    | .BoolOp .Or (x :: y :: r) pos => ckE a k x && ckE b k (unB (.BoolOp .Or (y :: r) pos))
    | _ => false)
  | .not a, k, e => (match e with
    | .UnaryOp .Not x _ => ckE a k x
    | _ => false)
  | .ix a b, k, e => (match e with
    | .Subscript o i _ => notSlice i && ckE a k o && ckE b k i
    | _ => false)
  | .sl a lo hi, k, e => (match e with
    | .Subscript o (.Slice l h none _) _ => ckE a k o && ckO lo k l && ckO hi k h
    | _ => false)
  | .tup es, k, e => (match e with
    | .Tuple xs _ _ => ckEs es k xs
    | _ => false)
  | .lst es, k, e => (match e with
    | .List xs _ => ckEs es k xs
    | _ => false)
  | .call j es, k, e => (match e with
    | .Call (.Name x _) xs [] _ => decide (k.nf[j]? = some x) && glB k x && dbgB x && ckEs es k xs
    | _ => false)
  | .callv i es, k, e => (match e with
    | .Call (.Name x _) (a :: xs) [] _ => varB k i x && ckEs es k (a :: xs)
    | _ => false)
  | .bif f es, k, e => (match e with
    | .Call (.Name x _) (a :: xs) [] _ => decide (x = bifName f) && glB k x && ckEs es k (a :: xs)
    | _ => false)
  | .isi a t, k, e => (match e with
    | .Call (.Name x _) [y, .Name z _] [] _ => decide (x = ("isinstance" : Str)) && decide (z = tyName t) && glB k x && glB k z && notStar y && ckE a k y
    | _ => false)
  | .lc p it c el own, k, e => (match e with
    | .ListComp elt [⟨tg, iter, ifs, 0⟩] scope _ => ownB k scope own && notSet iter && (pvars p).all own.contains && ckIt it k tg iter && ckP p (k.into scope) tg && ckC c (k.into scope) ifs && ckE el (k.into scope) elt
    | _ => false)
  | .fld i f, k, e => (match e with
    | .Attribute o n _ => ckVar k i o && decide (n = f.str)
    | _ => false)
  | .meth j i es, k, e => (match e with
    | .Call (.Attribute o m apos) xs [] pos => decide (k.nm[j]?.map (·.2) = some m) && ckVar k i o && ckLine apos pos && decide (xs.length < 20) && ckEs es k xs
    | _ => false)
  | .lm p m es, k, e => (match e with
    | .Call (.Attribute o n apos) (x :: xs) [] pos => decide (n = lmName m) && ckPn k p o && ckLine apos pos && decide (xs.length < 20) && ckEs es k (x :: xs)
    | _ => false)
  | .new j es, k, e => (match e with
    | .Call (.Name x _) (a :: xs) [] _ => decide (k.ni[j]?.map (·.2) = some x) && glB k x && dbgB x && ckEs es k (a :: xs)
    | _ => false)
  | .lzip a b, k, e => (match e with
    | .Call (.Name x _) [.Call (.Name z _) [y, w] [] _] [] _ => decide (x = ("list" : Str)) && decide (z = ("zip" : Str)) && glB k x && glB k z && notStar y && notStar w && ckE a k y && ckE b k w
    | _ => false)
  | .isB p a b, k, e => (match e with
    | .Compare l [c] [.Constant (.bool b') _ _] _ => decide (c = isop p) && (b' == b) && ckE a k l
    | _ => false)
def ckEs : Es → Ck → List Expr → Bool
  | .nil, _, l => l.isEmpty
  | .cons e es, k, l => (match l with
    | x :: xs => notStar x && ckE e k x && ckEs es k xs
    | [] => false)
def ckO : Eo → Ck → Option Expr → Bool
  | .no, _, o => o.isNone
  | .yes e, k, o => (match o with
    | some x => ckE e k x
    | none => false)
def ckC : Eo → Ck → List Expr → Bool
  | .no, _, l => l.isEmpty
  | .yes e, k, l => (match l with
    | [x] => tstB x && ckE e k x
    | _ => false)
def ckIt : It → Ck → Expr → Expr → Bool
  | .seq a, k, _, e => ckE a k e
  | .r1 a, k, _, e => (match e with
    | .Call (.Name x _) [y] [] _ => decide (x = ("range" : Str)) && glB k x && notStar y && ckE a k y
    | _ => false)
  | .r2 a b, k, _, e => (match e with
    | .Call (.Name x _) [y, z] [] _ => decide (x = ("range" : Str)) && glB k x && notStar y && notStar z && ckE a k y && ckE b k z
    | _ => false)
  | .r3 a b c, k, _, e => (match e with
    | .Call (.Name x _) [y, z, u] [] _ => decide (x = ("range" : Str)) && glB k x && notStar y && notStar z && notStar u && ckE a k y && ckE b k z && ckE c k u
    | _ => false)
  | .zip a b, k, tg, e => isTup tg && (match e with
    | .Call (.Name x _) [y, z] [] _ => decide (x = ("zip" : Str)) && glB k x && notStar y && notStar z && ckE a k y && ckE b k z
    | _ => false)
  | .enu a, k, tg, e => isTup tg && (match e with
    | .Call (.Name x _) [y] [] _ => decide (x = ("enumerate" : Str)) && glB k x && notStar y && ckE a k y
    | _ => false)
def ckP : Pat → Ck → Expr → Bool
  | .nm i, k, e => (match e with
    | .Name x _ => decide (k.N[i]? = some x) && locB k x && stoB k x
    | _ => false)
  | .tp ps, k, e => (match e with
    | .Tuple xs _ _ => decide (lenP ps = xs.length) && ckPs ps k xs
    | _ => false)
  | .sub p a, k, e => (match e with
    | .Subscript o i _ => ckPn k p o && notSlice i && ckE a k i
    | _ => false)
def ckPs : Pats → Ck → List Expr → Bool
  | .nil, _, l => l.isEmpty
  | .cons p ps, k, l => (match l with
    | x :: xs => notStar x && ckP p k x && ckPs ps k xs
    | [] => false)
end
end DL

/-! DLq -/
namespace DL
open PySem PySem.Spec PyProof.Rows L2

structure CkOk (k : Ck) (Γ : Gam) (G : Cxt) (lv : Nat) (X : Cx) : Prop where
  wd : Wd Γ G lv X
  N : X.N = k.N
  sc : X.env.scope = k.sc
  fn : ∀ x, stoB k x = true → X.fn x = true ∨ X.env.scope.names.lookup x = some .local
  nf : ∀ (j : Nat) (x : Str), k.nf[j]? = some x → ∃ S, Γ.fn[j]? = some (x, S)
  nc : ∀ (j : Nat) (x : Str), k.nc[j]? = some x → ∃ d, Γ.cst[j]? = some (x, d)
  ni : ∀ (j : Nat) (C : Cn) (x : Str), k.ni[j]? = some (C, x) → ∃ S, Γ.ini[j]? = some (C, x, S)
  nm : ∀ (j : Nat) (C : Cn) (x : Str), k.nm[j]? = some (C, x) → ∃ S, Γ.met[j]? = some (C, x, S)
section
variable {Γ : Gam} {G : Cxt} {lv : Nat} {X : Cx} {k : Ck} {pos : Pos} {e : Expr}
theorem visB_ok (K : CkOk k Γ G lv X) {x : Str} (h : visB k x = true) : Vis X.env.scope x := by
  rw [K.sc]
  unfold visB at h
  split at h
  · rename_i e; exact .inl e
  · rename_i e; exact .inr (.inl e)
  · rename_i e; exact .inr (.inr e)
  · cases h
theorem locB_ok (K : CkOk k Γ G lv X) {x : Str} (h : locB k x = true) : Loc X.env.scope x := by
  rw [K.sc]
  unfold locB at h
  split at h
  · rename_i e; exact .inl e
  · rename_i e; exact .inr e
  · cases h
theorem dbgB_ok {x : Str} (h : dbgB x = true) : (x == ("__debug__" : Str)) = false := by
  unfold dbgB at h
  simpa using h
theorem varB_ok (K : CkOk k Γ G lv X) {i : Nat} {x : Str} (h : varB k i x = true) : X.N[i]? = some x ∧ Vis X.env.scope x ∧ (x == ("__debug__" : Str)) = false ∧ (x == ("__classdict__" : Str)) = false := by
  unfold varB at h
  simp only [Bool.and_eq_true, decide_eq_true_eq, Bool.not_eq_true'] at h
  obtain ⟨⟨⟨h1, h2⟩, h3⟩, h4⟩ := h
  exact ⟨by rw [K.N]; exact h1, visB_ok K h2, dbgB_ok h3, h4⟩
theorem glB_ok (K : CkOk k Γ G lv X) {x : Str} (h : glB k x = true) : Gl X x := by
  unfold glB at h
  show X.env.scope.names.lookup x = _
  rw [K.sc]
  exact of_decide_eq_true h
theorem star_one {env : PySem.Env} {es : List Expr} (h : notStar e = true) : starEach (e :: es) env = (false, eval e env) :: starEach es env := by
  cases e <;> first | rfl | cases h
theorem star_asg {env : PySem.Env} {es : List Expr} (h : notStar e = true) : assignEach (e :: es) env = (false, assign e env) :: assignEach es env := by
  cases e <;> first | rfl | cases h
theorem stars_any {pos : Pos} {env : PySem.Env} : ∀ {es : List Expr}, es.all notStar = true → (backTo pos (starEach es env)).any (·.1) = false
  | [], _ => rfl
  | e :: es, h => by
    have h' : notStar e = true ∧ es.all notStar = true := by simpa using h
    rw [star_one h'.1]
    have := stars_any (env := env) (pos := pos) (es := es) h'.2
    unfold backTo at this ⊢
    rw [List.map_cons, List.any_cons, this]; rfl
theorem stars_all {pos : Pos} {env : PySem.Env} : ∀ {es : List Expr}, es.all notStar = true → (backTo pos (starEach es env)).all (fun x => !x.1) = true
  | [], _ => rfl
  | e :: es, h => by
    have h' : notStar e = true ∧ es.all notStar = true := by simpa using h
    rw [star_one h'.1]
    have := stars_all (env := env) (pos := pos) (es := es) h'.2
    unfold backTo at this ⊢
    rw [List.map_cons, List.all_cons, this]; rfl
theorem asgs_len {env : PySem.Env} : ∀ {es : List Expr}, es.all notStar = true → (assignEach es env).length = es.length ∧ (assignEach es env).findIdx? (·.1) = none
  | [], _ => ⟨rfl, rfl⟩
  | e :: es, h => by
    have h' : notStar e = true ∧ es.all notStar = true := by simpa using h
    rw [star_asg h'.1]
    have := asgs_len (env := env) h'.2
    refine ⟨by rw [List.length_cons, List.length_cons, this.1], ?_⟩
    rw [List.findIdx?_cons, this.2]; rfl
theorem plain_ix {i : Expr} (h : notSlice i = true) : PlainIx i := by
  intro o j
  cases i <;> first | rfl | cases h
theorem set_no {i : Expr} (h : notSet i = true) (env : PySem.Env) (x : Value) : foldedSetIterable i env x = pure x := by
  cases i <;> first | rfl | cases h
theorem behind_no {i : Expr} (h : notSet i = true) (op : CmpOp) : behindInMarks op i = false := by
  cases i <;> first | rfl | cases h
theorem ckCst_ok : ∀ {d : D} {e : Expr}, ckCst d e = true → PE X e (tE Γ G (.cst d))
  | .non, .Constant c _ _, h => by
    cases c <;> first | exact s_cst pe_non (fun _ => .non) | cases h
  | .bl b, .Constant c _ _, h => by
    cases c <;> first | cases h | skip
    rename_i b'
    have : b = b' := by simpa [ckCst] using h
    subst this
    exact s_cst pe_bl (fun _ => .bl _)
  | .int b, .Constant c _ _, h => by
    cases c <;> first | cases h | skip
    rename_i b'
    have : b = b' := by simpa [ckCst] using h
    subst this
    exact s_cst pe_int (fun _ => .int _)
  | .str b, .Constant c _ _, h => by
    cases c <;> first | cases h | skip
    rename_i b'
    have : b = b' := by simpa [ckCst] using h
    subst this
    exact s_cst pe_str (fun _ => .str _)
  | .tup _, e, h => by cases e <;> cases h
  | .lst _, e, h => by cases e <;> cases h
  | .fn _, e, h => by cases e <;> cases h
theorem ckVar_ok (K : CkOk k Γ G lv X) {i : Nat} (h : ckVar k i e = true) : ∃ x p, e = .Name x p ∧ X.N[i]? = some x ∧ Vis X.env.scope x ∧ (x == ("__debug__" : Str)) = false ∧ (x == ("__classdict__" : Str)) = false := by
  cases e <;> first | cases h | skip
  exact ⟨_, _, rfl, varB_ok K h⟩
theorem ckVar_pe (K : CkOk k Γ G lv X) {i : Nat} (h : ckVar k i e = true) : PE X e (tE Γ G (.var i)) := by
  obtain ⟨x, p, rfl, h1, h2, h3, h4⟩ := ckVar_ok K h
  exact s_var h1 h2 h3 h4
theorem ckFld_pe (K : CkOk k Γ G lv X) {i : Nat} {o : Expr} {f : Fn} (h : ckVar k i o = true) : PE X (.Attribute o f.str pos) (tE Γ G (.fld i f)) := by
  obtain ⟨x, p, rfl, h1, h2, h3, h4⟩ := ckVar_ok K h
  exact s_fld K.wd h1 h2 h3 h4
theorem ckPn_pe (K : CkOk k Γ G lv X) {p : Pn} (h : ckPn k p e = true) : PE X e (tE Γ G (toE p)) := by
  cases p with
  | var i => exact ckVar_pe K h
  | fld i f =>
    cases e <;> first | cases h | skip
    rename_i o n ps
    have h' : ckVar k i o = true ∧ n = f.str := by simpa [ckPn] using h
    rw [h'.2]
    exact ckFld_pe K h'.1
theorem ckPn_base (env : PySem.Env) {p : Pn} (h : ckPn k p e = true) (m : Str) : attributeBase e m env (eval e env) = eval e env := by
  cases p <;> cases e <;> first | rfl | cases h
theorem pt_of {c : E} (h : tstB e = true) (hn : ∀ x p, e ≠ .UnaryOp .Not x p) (hc : ∀ l o r p, e ≠ .Compare l o r p) (he : PE X e (tE Γ G c)) : PT X e (tTest (tE Γ G c)) := by
  refine pt_val he fun whole => ?_
  cases e <;> first | rfl | cases h | skip
  · rename_i op x p
    cases op <;> first | cases h | exact absurd rfl (hn x p)
  · exact absurd rfl (hc _ _ _ _)
theorem t_notv {a : Expr} {ca : E} (ha : PT X a (tTest (tE Γ G ca))) : PT X (.UnaryOp .Not a pos) (tTest (tE Γ G (.not ca))) := by
  refine (pt_not ha).imp ?_
  rintro σ H Q ⟨ρ, ft, R, a, w, k⟩
  simp only [wpE] at w
  refine ⟨ρ, ft, _, a, w, fun x ρ1 v H1 f1 w1 e1 r1 n1 fr1 s1 => ?_⟩
  split at w1
  · rename_i c
    refine ⟨c, rep_bl r1.2, ?_⟩
    obtain ⟨c2, h1, h2⟩ := k (.val (.bl (!c))) ρ1 (.bl (!c)) H1 [] w1 e1 ⟨rfl, .bl _⟩ List.nodup_nil (fun a m => by cases m) s1
    cases h1
    exact h2
  · exact w1.elim
theorem into_ok (K : CkOk k Γ G lv X) (scope : Scope) (s : Shared) (H : Hp) (C : Addr) (cl : List (Str × Addr)) (fp : List Addr) : CkOk (k.into scope) Γ G lv (X.blk s H scope (compEnvC scope cl C X.env) fp) where
  wd := ⟨K.wd.K, K.wd.mg, K.wd.calm, K.wd.nd, K.wd.room, K.wd.fn, K.wd.cst, K.wd.ini, K.wd.met, K.wd.cls, K.wd.blt⟩
  N := K.N
  sc := by
    show relS scope X.env.scope = relS scope k.sc
    rw [K.sc]
  fn := fun x h => by
    have h' : ((scope.names.lookup x == some .cell) || decide ((relS scope k.sc).names.lookup x = some .local)) = true := h
    refine ((Bool.or_eq_true _ _).mp h').imp id fun z => ?_
    have z := of_decide_eq_true z
    show (relS scope X.env.scope).names.lookup x = _
    rw [K.sc]; exact z
  nf := K.nf
  nc := K.nc
  ni := K.ni
  nm := K.nm
/-- the own names, by the list -/
def ownL (k : Ck) (own : List Nat) : List (Str × Nat) := own.map fun i => ((k.N[i]?).getD "", i)
theorem ownL_snd (own : List Nat) : (ownL k own).map (·.2) = own := by
  unfold ownL
  rw [List.map_map]
  exact List.map_id' _
theorem own_ok (K : CkOk k Γ G lv X) {scope : Scope} {own : List Nat} (h : ownB k scope own = true) : BlkOk X.N X.env.scope scope (ownL k own) := by
  unfold ownB at h
  simp only [Bool.and_eq_true, decide_eq_true_eq] at h
  obtain ⟨⟨h1, h2⟩, h3⟩ := h
  have h2' := List.all_eq_true.mp h2
  have h3' := List.all_eq_true.mp h3
  refine ⟨h1, fun y hy => ?_, fun p hp => ?_, fun y hy e => ?_, fun y hy e => ?_⟩
  · have := h2' y hy
    simp only [Bool.and_eq_true, decide_eq_true_eq] at this
    exact this.1
  · unfold ownL at hp
    obtain ⟨i, hi, rfl⟩ := List.mem_map.mp hp
    have hl : i < k.N.length := of_decide_eq_true (h3' i hi)
    rw [K.N]
    simp only [List.getElem?_eq_getElem hl, Option.getD_some]
  · have := h2' y hy
    simp only [Bool.and_eq_true, decide_eq_true_eq] at this
    have z := this.2
    rw [if_pos e] at z
    rw [K.sc]
    exact of_decide_eq_true z
  · have := h2' y hy
    simp only [Bool.and_eq_true, decide_eq_true_eq] at this
    have z := this.2
    rw [if_neg (by rcases e with e | e <;> rw [e] <;> decide), if_pos e] at z
    rcases (Bool.or_eq_true _ _).mp z with z | z
    · left
      obtain ⟨i, hi, hy2⟩ := List.any_eq_true.mp z
      have := of_decide_eq_true hy2
      unfold ownL
      rw [List.map_map]
      exact List.mem_map.mpr ⟨i, hi, by simp [this]⟩
    · right
      rw [K.N]
      simpa using z
end
end DL

/-! DLr -/
namespace DL
open PySem PySem.Spec PyProof.Rows L2

section
variable {Γ : Gam} {G : Cxt} {lv : Nat}
theorem ckCst_const {d : D} {e : Expr} (h : ckCst d e = true) : ∃ c j p, e = .Constant c j p := by
  cases d <;> cases e <;> first | exact ⟨_, _, _, rfl⟩ | cases h
theorem ckEs_star : ∀ {es : Es} {k : Ck} {l : List Expr}, ckEs es k l = true → l.all notStar = true
  | .nil, k, l, h => by
    cases l with
    | nil => rfl
    | cons x xs => simp [ckEs] at h
  | .cons e es, k, l, h => by
    cases l with
    | nil => rfl
    | cons x xs =>
      simp only [ckEs, Bool.and_eq_true] at h
      obtain ⟨⟨h1, _⟩, h3⟩ := h
      simp only [List.all_cons, h1, ckEs_star h3, Bool.and_self]
theorem ckPs_star : ∀ {es : Pats} {k : Ck} {l : List Expr}, ckPs es k l = true → l.all notStar = true
  | .nil, k, l, h => by
    cases l with
    | nil => rfl
    | cons x xs => simp [ckPs] at h
  | .cons e es, k, l, h => by
    cases l with
    | nil => rfl
    | cons x xs =>
      simp only [ckPs, Bool.and_eq_true] at h
      obtain ⟨⟨h1, _⟩, h3⟩ := h
      simp only [List.all_cons, h1, ckPs_star h3, Bool.and_self]
theorem star_tl {x : Expr} {xs : List Expr} (h : (x :: xs).all notStar = true) : notStar x = true ∧ xs.all notStar = true := by simpa using h
theorem unB_ok {X : Cx} {op : BoolOp} {y : Expr} {r : List Expr} {pos : Pos} {t : TE} (h : PE X (unB (.BoolOp op (y :: r) pos)) t) : PE X (.BoolOp op (y :: r) pos) t := by
  cases r with
  | nil => exact pe_one h
  | cons z r => exact h
theorem call_pt {X : Cx} {f : Expr} {xs : List Expr} {ks : List Keyword} {pos : Pos} {c : E} (h : PE X (.Call f xs ks pos) (tE Γ G c)) : PE X (.Call f xs ks pos) (tE Γ G c) ∧ (tstB (.Call f xs ks pos) = true → PT X (.Call f xs ks pos) (tTest (tE Γ G c))) :=
  ⟨h, fun t => pt_of t (fun _ _ z => by cases z) (fun _ _ _ _ z => by cases z) h⟩
theorem ix_pt {X : Cx} {a b : Expr} {pos : Pos} {c : E} (h : PE X (.Subscript a b pos) (tE Γ G c)) : PE X (.Subscript a b pos) (tE Γ G c) ∧ (tstB (.Subscript a b pos) = true → PT X (.Subscript a b pos) (tTest (tE Γ G c))) :=
  ⟨h, fun t => pt_of t (fun _ _ z => by cases z) (fun _ _ _ _ z => by cases z) h⟩
theorem at_pt {X : Cx} {a : Expr} {b : Str} {pos : Pos} {c : E} (h : PE X (.Attribute a b pos) (tE Γ G c)) : PE X (.Attribute a b pos) (tE Γ G c) ∧ (tstB (.Attribute a b pos) = true → PT X (.Attribute a b pos) (tTest (tE Γ G c))) :=
  ⟨h, fun t => pt_of t (fun _ _ z => by cases z) (fun _ _ _ _ z => by cases z) h⟩
theorem few_ok {env : PySem.Env} {e : Expr} {es : List Expr} {pos : Pos} (h : (e :: es).all notStar = true) (hl : es.length < 20) : ((backTo pos (starEach (e :: es) env)).all (fun x => !x.1) && (backToKw pos (keywordEach [] env)).all (fun x => x.1.isSome)
      && decide ((e :: es).length + ([] : List Keyword).length + (if ([] : List Keyword).isEmpty then 0 else 1) < 30)) = true := by
  rw [stars_all h]
  have : (e :: es).length + ([] : List Keyword).length + (if ([] : List Keyword).isEmpty then 0 else 1) < 30 := by
    simp only [List.length_cons, List.length_nil, List.isEmpty_nil, if_true]; omega
  rw [decide_eq_true this]
  rfl
mutual
theorem ckE_ok : ∀ (c : E) {k : Ck} {X : Cx} {e : Expr}, CkOk k Γ G lv X → ckE c k e = true → PE X e (tE Γ G c) ∧ (tstB e = true → PT X e (tTest (tE Γ G c)))
  | .var i, k, X, e, K, h => by
    simp only [ckE] at h
    have p := ckVar_pe K h
    refine ⟨p, fun t => pt_of t (fun x q z => ?_) (fun l o r q z => ?_) p⟩ <;> (subst z; cases h)
  | .cst d, k, X, e, K, h => by
    simp only [ckE] at h
    have p : PE X e (tE Γ G (.cst d)) := ckCst_ok h
    obtain ⟨c, j, q, rfl⟩ := ckCst_const h
    exact ⟨p, fun t => pt_of t (fun _ _ z => by cases z) (fun _ _ _ _ z => by cases z) p⟩
  | .glb j, k, X, e, K, h => by
    simp only [ckE] at h
    split at h
    · rename_i x0 pos0
      simp only [Bool.and_eq_true, decide_eq_true_eq] at h
      obtain ⟨⟨h1, h2⟩, h3⟩ := h
      obtain ⟨d, hd⟩ := K.nc _ _ h1
      have p := s_glb (pos := pos0) K.wd hd (glB_ok K h2) (dbgB_ok h3)
      exact ⟨p, fun t => pt_of t (fun _ _ z => by cases z) (fun _ _ _ _ z => by cases z) p⟩
    · cases h
  | .bin o a b, k, X, e, K, h => by
    simp only [ckE] at h
    split at h
    · simp only [Bool.and_eq_true, decide_eq_true_eq] at h
      obtain ⟨⟨rfl, h1⟩, h2⟩ := h
      exact ⟨s_bin K.wd o (ckE_ok a K h1).1 (ckE_ok b K h2).1, fun t => by cases t⟩
    · cases h
  | .neg a, k, X, e, K, h => by
    simp only [ckE] at h
    split at h
    · exact ⟨s_neg (ckE_ok a K h).1, fun t => by cases t⟩
    · cases h
  | .cmp o a b, k, X, e, K, h => by
    simp only [ckE] at h
    split at h
    · simp only [Bool.and_eq_true, decide_eq_true_eq] at h
      obtain ⟨⟨rfl, h1⟩, h2⟩ := h
      have p1 := (ckE_ok a K h1).1
      have p2 := (ckE_ok b K h2).1
      exact ⟨s_cmp K.wd o p1 p2, fun _ => t_cmp K.wd o p1 p2⟩
    · cases h
  | .chn o o' a b c, k, X, e, K, h => by
    simp only [ckE] at h
    split at h
    · simp only [Bool.and_eq_true, decide_eq_true_eq] at h
      obtain ⟨⟨⟨⟨rfl, rfl⟩, h1⟩, h2⟩, h3⟩ := h
      have p1 := (ckE_ok a K h1).1
      have p2 := (ckE_ok b K h2).1
      have p3 := (ckE_ok c K h3).1
      exact ⟨s_chn K.wd o o' p1 p2 p3, fun _ => t_chn K.wd o o' p1 p2 p3⟩
    · cases h
  | .chn3 o o' o'' a b c d, k, X, e, K, h => by
    simp only [ckE] at h
    split at h
    · simp only [Bool.and_eq_true, decide_eq_true_eq] at h
      obtain ⟨⟨⟨⟨⟨⟨rfl, rfl⟩, rfl⟩, h1⟩, h2⟩, h3⟩, h4⟩ := h
      have p1 := (ckE_ok a K h1).1
      have p2 := (ckE_ok b K h2).1
      have p3 := (ckE_ok c K h3).1
      have p4 := (ckE_ok d K h4).1
      exact ⟨s_chn3 K.wd o o' o'' p1 p2 p3 p4, fun _ => t_chn3 K.wd o o' o'' p1 p2 p3 p4⟩
    · cases h
  | .isN p a, k, X, e, K, h => by
    simp only [ckE] at h
    split at h
    · simp only [Bool.and_eq_true, decide_eq_true_eq] at h
      obtain ⟨rfl, h1⟩ := h
      have p1 := (ckE_ok a K h1).1
      exact ⟨s_isN p p1, fun _ => t_isN p p1⟩
    · cases h
  | .inn p a b, k, X, e, K, h => by
    simp only [ckE] at h
    split at h
    · simp only [Bool.and_eq_true, decide_eq_true_eq] at h
      obtain ⟨⟨⟨rfl, h0⟩, h1⟩, h2⟩ := h
      have p1 := (ckE_ok a K h1).1
      have p2 := (ckE_ok b K h2).1
      exact ⟨s_inn K.wd p p1 p2 (behind_no h0), fun _ => t_inn K.wd p p1 p2 (behind_no h0)⟩
    · cases h
  | .and a b, k, X, e, K, h => by
    simp only [ckE] at h
    split at h
    · simp only [Bool.and_eq_true] at h
      exact ⟨s_and (ckE_ok a K h.1).1 (unB_ok (ckE_ok b K h.2).1), fun t => by cases t⟩
    · cases h
  | .or a b, k, X, e, K, h => by
    simp only [ckE] at h
    split at h
    · simp only [Bool.and_eq_true] at h
      exact ⟨s_or (ckE_ok a K h.1).1 (unB_ok (ckE_ok b K h.2).1), fun t => by cases t⟩
    · cases h
  | .not a, k, X, e, K, h => by
    simp only [ckE] at h
    split at h
    · have p := ckE_ok a K h
      exact ⟨s_not p.1, fun t => t_notv (p.2 t)⟩
    · cases h
  | .ix a b, k, X, e, K, h => by
    simp only [ckE] at h
    split at h
    · simp only [Bool.and_eq_true] at h
      obtain ⟨⟨h0, h1⟩, h2⟩ := h
      exact ix_pt (s_ix K.wd (ckE_ok a K h1).1 (ckE_ok b K h2).1 (plain_ix h0))
    · cases h
  | .sl a lo hi, k, X, e, K, h => by
    simp only [ckE] at h
    split at h
    · simp only [Bool.and_eq_true] at h
      obtain ⟨⟨h0, h1⟩, h2⟩ := h
      exact ix_pt (s_sl K.wd (ckE_ok a K h0).1 (ckO_ok lo K h1) (ckO_ok hi K h2))
    · cases h
  | .tup es, k, X, e, K, h => by
    simp only [ckE] at h
    split at h
    · exact ⟨s_tup (ckEs_ok es K h), fun t => by cases t⟩
    · cases h
  | .lst es, k, X, e, K, h => by
    simp only [ckE] at h
    split at h
    · exact ⟨s_lst (ckEs_ok es K h), fun t => by cases t⟩
    · cases h
  | .call j es, k, X, e, K, h => by
    simp only [ckE] at h
    split at h
    · rename_i x p xs pos
      simp only [Bool.and_eq_true, decide_eq_true_eq] at h
      obtain ⟨⟨⟨h1, h2⟩, h3⟩, h4⟩ := h
      obtain ⟨S, hS⟩ := K.nf _ _ h1
      have pa := ckEs_ok es K h4
      have hst := ckEs_star h4
      refine call_pt ?_
      cases xs with
      | nil =>
        cases es with
        | nil => exact s_call0 K.wd hS (glB_ok K h2) (dbgB_ok h3)
        | cons a r => simp [ckEs] at h4
      | cons a r => exact s_call K.wd hS (glB_ok K h2) (dbgB_ok h3) pa (star_one (star_tl hst).1) (stars_any (star_tl hst).2)
    · cases h
  | .callv i es, k, X, e, K, h => by
    simp only [ckE] at h
    split at h
    · simp only [Bool.and_eq_true] at h
      obtain ⟨h1, h4⟩ := h
      obtain ⟨v1, v2, v3, v4⟩ := varB_ok K h1
      have hst := ckEs_star h4
      exact call_pt (s_callv K.wd v1 v2 v3 v4 (ckEs_ok es K h4) (star_one (star_tl hst).1) (stars_any (star_tl hst).2))
    · cases h
  | .bif f es, k, X, e, K, h => by
    simp only [ckE] at h
    split at h
    · simp only [Bool.and_eq_true, decide_eq_true_eq] at h
      obtain ⟨⟨rfl, h2⟩, h4⟩ := h
      have hst := ckEs_star h4
      exact call_pt (s_bif K.wd f (glB_ok K h2) (ckEs_ok es K h4) (star_one (star_tl hst).1) (stars_any (star_tl hst).2))
    · cases h
  | .isi a t, k, X, e, K, h => by
    simp only [ckE] at h
    split at h
    · simp only [Bool.and_eq_true, decide_eq_true_eq] at h
      obtain ⟨⟨⟨⟨⟨rfl, rfl⟩, h3⟩, h4⟩, h5⟩, h6⟩ := h
      exact call_pt (s_isi K.wd t (glB_ok K h3) (glB_ok K h4) (ckE_ok a K h6).1 (star_one h5))
    · cases h
  | .lc p it c el own, k, X, e, K, h => by
    simp only [ckE] at h
    split at h
    · simp only [Bool.and_eq_true] at h
      obtain ⟨⟨⟨⟨⟨⟨h1, h2⟩, h3⟩, h4⟩, h5⟩, h6⟩, h7⟩ := h
      have hpv : ∀ j ∈ pvars p, j ∈ own := fun j hj => by
        have := List.all_eq_true.mp h3 j hj
        simpa using this
      rename_i elt tg iter ifs scope cpos
      have p := (pe_lc (pos := cpos) K.wd.calm K.wd.nd (ckIt_ok it K h4) (own_ok K h1) (fun s H C cl fp => ckP_ok p (into_ok K _ s H C cl fp) h5) (fun s H C cl fp => ckC_ok c (into_ok K _ s H C cl fp) h6) (fun s H C cl fp => (ckE_ok el (into_ok K _ s H C cl fp) h7).1) (set_no h2 _))
      rw [ownL_snd] at p
      exact ⟨p.imp (lc_imp hpv), fun t => by cases t⟩
    · cases h
  | .fld i f, k, X, e, K, h => by
    simp only [ckE] at h
    split at h
    · simp only [Bool.and_eq_true, decide_eq_true_eq] at h
      obtain ⟨h1, rfl⟩ := h
      exact at_pt (ckFld_pe K h1)
    · cases h
  | .meth j i es, k, X, e, K, h => by
    simp only [ckE] at h
    split at h
    · rename_i o m apos xs pos
      simp only [Bool.and_eq_true, decide_eq_true_eq] at h
      obtain ⟨⟨⟨⟨h1, h2⟩, h3⟩, h4⟩, h5⟩ := h
      obtain ⟨x, q, rfl, v1, v2, v3, v4⟩ := ckVar_ok K h2
      obtain ⟨⟨C, m'⟩, hm1, hm2⟩ := Option.map_eq_some_iff.mp h1
      cases hm2
      obtain ⟨S, hS⟩ := K.nm _ _ _ hm1
      have pa := ckEs_ok es K h5
      have hst := ckEs_star h5
      refine call_pt ?_
      cases xs with
      | nil =>
        cases es with
        | nil => exact s_meth0 K.wd hS v1 v2 v3 v4 h3
        | cons a r => simp [ckEs] at h5
      | cons a r => exact s_meth K.wd hS v1 v2 v3 v4 pa (star_one (star_tl hst).1) (stars_any (star_tl hst).2) h3 h4
    · cases h
  | .lm p m es, k, X, e, K, h => by
    simp only [ckE] at h
    split at h
    · simp only [Bool.and_eq_true, decide_eq_true_eq] at h
      obtain ⟨⟨⟨⟨rfl, h2⟩, h3⟩, h4⟩, h5⟩ := h
      have hst := ckEs_star h5
      exact call_pt (s_lm K.wd p m (ckPn_pe K h2) (ckEs_ok es K h5) (ckPn_base _ h2 _) (few_ok hst h4) h3 (star_one (star_tl hst).1) (stars_any (star_tl hst).2))
    · cases h
  | .new j es, k, X, e, K, h => by
    simp only [ckE] at h
    split at h
    · simp only [Bool.and_eq_true, decide_eq_true_eq] at h
      obtain ⟨⟨⟨h1, h2⟩, h3⟩, h4⟩ := h
      obtain ⟨⟨C, m'⟩, hm1, hm2⟩ := Option.map_eq_some_iff.mp h1
      cases hm2
      obtain ⟨S, hS⟩ := K.ni _ _ _ hm1
      have hst := ckEs_star h4
      exact call_pt (s_new K.wd hS (glB_ok K h2) (dbgB_ok h3) (ckEs_ok es K h4) (star_one (star_tl hst).1) (stars_any (star_tl hst).2))
    · cases h
  | .lzip a b, k, X, e, K, h => by
    simp only [ckE] at h
    split at h
    · simp only [Bool.and_eq_true, decide_eq_true_eq] at h
      obtain ⟨⟨⟨⟨⟨⟨⟨rfl, rfl⟩, h3⟩, h4⟩, h5⟩, h6⟩, h7⟩, h8⟩ := h
      have e2 := star_one (env := X.env) (es := []) h6
      exact call_pt (s_lzip K.wd (glB_ok K h3) (glB_ok K h4) (ckE_ok a K h7).1 (ckE_ok b K h8).1 (star_one h5) e2)
    · cases h
  | .isB p a b, k, X, e, K, h => by
    simp only [ckE] at h
    split at h
    · simp only [Bool.and_eq_true, decide_eq_true_eq, beq_iff_eq] at h
      obtain ⟨⟨rfl, rfl⟩, h1⟩ := h
      have p1 := (ckE_ok a K h1).1
      exact ⟨s_isB p _ p1, fun _ => t_isB p _ p1⟩
    · cases h
theorem ckEs_ok : ∀ (c : Es) {k : Ck} {X : Cx} {l : List Expr}, CkOk k Γ G lv X → ckEs c k l = true → PA X l (tEs Γ G c)
  | .nil, k, X, l, K, h => by
    cases l with
    | nil => exact s_nil
    | cons x xs => simp [ckEs] at h
  | .cons e es, k, X, l, K, h => by
    cases l with
    | nil => simp [ckEs] at h
    | cons x xs =>
      simp only [ckEs, Bool.and_eq_true] at h
      obtain ⟨⟨h1, h2⟩, h3⟩ := h
      exact s_cons (ckE_ok e K h2).1 (ckEs_ok es K h3) (star_one h1)
theorem ckO_ok : ∀ (c : Eo) {k : Ck} {X : Cx} {l : Option Expr}, CkOk k Γ G lv X → ckO c k l = true → PO X l (tO Γ G c)
  | .no, k, X, l, K, h => by
    cases l with
    | none => exact s_no
    | some x => simp [ckO] at h
  | .yes e, k, X, l, K, h => by
    cases l with
    | none => simp [ckO] at h
    | some x =>
      simp only [ckO] at h
      exact s_yes (ckE_ok e K h).1
theorem ckC_ok : ∀ (c : Eo) {k : Ck} {X : Cx} {l : List Expr}, CkOk k Γ G lv X → ckC c k l = true → PTs X l (tCn Γ G c)
  | .no, k, X, l, K, h => by
    cases l with
    | nil => exact c_no
    | cons x xs => simp [ckC] at h
  | .yes e, k, X, l, K, h => by
    simp only [ckC] at h
    split at h
    · simp only [Bool.and_eq_true] at h
      exact c_yes ((ckE_ok e K h.2).2 h.1)
    · cases h
theorem ckIt_ok : ∀ (c : It) {k : Ck} {X : Cx} {tg e : Expr}, CkOk k Γ G lv X → ckIt c k tg e = true → PI X tg e (tIt Γ G c)
  | .seq a, k, X, tg, e, K, h => by
    simp only [ckIt] at h
    exact s_seq K.wd (ckE_ok a K h).1
  | .r1 a, k, X, tg, e, K, h => by
    simp only [ckIt] at h
    split at h
    · simp only [Bool.and_eq_true, decide_eq_true_eq] at h
      obtain ⟨⟨⟨rfl, h2⟩, h3⟩, h4⟩ := h
      exact s_r1 K.wd (glB_ok K h2) (ckE_ok a K h4).1 (star_one h3)
    · cases h
  | .r2 a b, k, X, tg, e, K, h => by
    simp only [ckIt] at h
    split at h
    · simp only [Bool.and_eq_true, decide_eq_true_eq] at h
      obtain ⟨⟨⟨⟨⟨rfl, h2⟩, h3⟩, h4⟩, h5⟩, h6⟩ := h
      have e2 := star_one (env := X.env) (es := []) h4
      exact s_r2 K.wd (glB_ok K h2) (ckE_ok a K h5).1 (ckE_ok b K h6).1 (by rw [star_one h3, e2]; rfl) e2
    · cases h
  | .r3 a b c, k, X, tg, e, K, h => by
    simp only [ckIt] at h
    split at h
    · simp only [Bool.and_eq_true, decide_eq_true_eq] at h
      obtain ⟨⟨⟨⟨⟨⟨⟨rfl, h2⟩, h3⟩, h4⟩, h5⟩, h6⟩, h7⟩, h8⟩ := h
      exact s_r3 K.wd (glB_ok K h2) (ckE_ok a K h6).1 (ckE_ok b K h7).1 (ckE_ok c K h8).1 (star_one h3) (star_one h4) (star_one h5) (stars_any (by simp [h4, h5]))
    · cases h
  | .zip a b, k, X, tg, e, K, h => by
    simp only [ckIt, Bool.and_eq_true] at h
    obtain ⟨ht, h⟩ := h
    split at h
    · simp only [Bool.and_eq_true, decide_eq_true_eq] at h
      obtain ⟨⟨⟨⟨⟨rfl, h2⟩, h3⟩, h4⟩, h5⟩, h6⟩ := h
      have e2 := star_one (env := X.env) (es := []) h4
      cases tg <;> first | cases ht | skip
      exact s_zip K.wd (glB_ok K h2) (ckE_ok a K h5).1 (ckE_ok b K h6).1 (star_one h3) e2
    · cases h
  | .enu a, k, X, tg, e, K, h => by
    simp only [ckIt, Bool.and_eq_true] at h
    obtain ⟨ht, h⟩ := h
    split at h
    · simp only [Bool.and_eq_true, decide_eq_true_eq] at h
      obtain ⟨⟨⟨rfl, h2⟩, h3⟩, h4⟩ := h
      cases tg <;> first | cases ht | skip
      exact s_enu K.wd (glB_ok K h2) (ckE_ok a K h4).1 (star_one h3)
    · cases h
theorem ckP_ok : ∀ (c : Pat) {k : Ck} {X : Cx} {e : Expr}, CkOk k Γ G lv X → ckP c k e = true → PG X e (tPat Γ G c)
  | .nm i, k, X, e, K, h => by
    simp only [ckP] at h
    split at h
    · simp only [Bool.and_eq_true, decide_eq_true_eq] at h
      obtain ⟨⟨h1, h2⟩, h3⟩ := h
      exact p_nm K.wd (by rw [K.N]; exact h1) (locB_ok K h2) (K.fn _ h3)
    · cases h
  | .tp ps, k, X, e, K, h => by
    simp only [ckP] at h
    split at h
    · simp only [Bool.and_eq_true, decide_eq_true_eq] at h
      have hst := ckPs_star h.2
      exact p_tp K.wd (ckPs_ok ps K h.2) h.1 (asgs_len hst).1 (asgs_len hst).2
    · cases h
  | .sub p a, k, X, e, K, h => by
    simp only [ckP] at h
    split at h
    · simp only [Bool.and_eq_true] at h
      obtain ⟨⟨h1, h2⟩, h3⟩ := h
      refine p_sub K.wd (ckPn_pe K h1) (ckE_ok a K h3).1 fun v => ?_
      rename_i i _
      cases i <;> first | rfl | cases h2
    · cases h
theorem ckPs_ok : ∀ (c : Pats) {k : Ck} {X : Cx} {l : List Expr}, CkOk k Γ G lv X → ckPs c k l = true → PGs X l (tPats Γ G c)
  | .nil, k, X, l, K, h => by
    cases l with
    | nil => exact p_nil
    | cons x xs => simp [ckPs] at h
  | .cons p ps, k, X, l, K, h => by
    cases l with
    | nil => simp [ckPs] at h
    | cons x xs =>
      simp only [ckPs, Bool.and_eq_true] at h
      obtain ⟨⟨h1, h2⟩, h3⟩ := h
      exact p_cons (ckP_ok p K h2) (ckPs_ok ps K h3) (by rw [star_asg h1]; rfl)
end
end
end DL

/-! DLs -/
namespace DL
open PySem PySem.Spec PyProof.Rows L2

/-! ## tests and statements against their cores -/
def isBool : Expr → Bool
  | .BoolOp _ _ _ => true
  | _ => false
def ckT : E → Ck → Expr → Bool
  | .and a b, k, e => (match e with
    | .BoolOp .And (x :: y :: r) pos => ckT a k x && (match r with
      | [] => ckT b k y
      | z :: r => ckT b k (.BoolOp .And (y :: z :: r) pos))
    | _ => false)
  | .or a b, k, e => (match e with
    | .BoolOp .Or (x :: y :: r) pos => ckT a k x && (match r with
      | [] => ckT b k y
      | z :: r => ckT b k (.BoolOp .Or (y :: z :: r) pos))
    | _ => false)
  | .not a, k, e => (match e with
    | .UnaryOp .Not x _ => ckT a k x
    | _ => false)
  | c, k, e => tstB e && ckE c k e
/-- an exchanged store -/
def swB (sc : Scope) (t : Str) (p cp : Pos) (scope : Scope) : Bool := (if sc.kind.isAnnotationScope then ScopeKind.function else sc.kind) == .function && sc.names.lookup t == some .local && p.line == cp.line && !(scope.names.any fun (n, k) => n == t && (k == .local || k == .cell))
def loc1 (sc : Scope) (l : Nat) : Expr → Bool
  | .Name x p => decide (sc.names.lookup x = some .local) && p.line == l
  | _ => false
def parB (sc : Scope) (vs : List Expr) : Bool := decide (sc.kind = .function) && vs.all notStar && !(vs.all (foldedForSure 8)) && !(vs.all (constantsAlone 8))
/-- a tuple that is stored as a tuple -/
def noSw (sc : Scope) (t v : Expr) : Bool := match t with
  | .Tuple ts _ _ => (match v with
    | .Tuple vs _ _ => vs.all (foldedForSure 8) || ts.any (fun t => !loc1 sc ((ts.head?.map (·.pos.line)).getD 0) t)
    | _ => true)
  | .List _ _ => false
  | _ => true
mutual
def ckS : S → Ck → Stmt → Bool
  | .asg p c, k, s => (match s with
    | .Assign [t] v pos => notStar t && (match p with
      | .nm i => (match t with
        | .Name x xp => decide (k.N[i]? = some x) && locB k x && stoB k x && ckE c k v && (match v with
          | .ListComp _ _ scope cp => k.blk.isNone && (!swB k.sc x xp cp scope || (match c with
            | .lc _ _ _ _ _ => decide (k.sc.names.lookup x = some .local)
            | _ => false))
          | v => notComp v)
        | _ => false)
      | p => ckP p k t && ckE c k v && notComp v && noSw k.sc t v)
    | _ => false)
  | .par is cs, k, s => (match is with
    | [i, j] => (match s with
      | .Assign [.Tuple [.Name x xp, .Name y yp] _ _] (.Tuple [a, b] _ _) _ => decide (k.N[i]? = some x) && decide (k.N[j]? = some y) && decide (i ≠ j) && loc1 k.sc xp.line (.Name x xp) && loc1 k.sc xp.line (.Name y yp) && parB k.sc [a, b] && decide (x ≠ y) && ckEs cs k [a, b]
      | _ => false)
    | [i, j, l] => (match s with
      | .Assign [.Tuple [.Name x xp, .Name y yp, .Name z zp] _ _] (.Tuple [a, b, c] _ _) _ => decide (k.N[i]? = some x) && decide (k.N[j]? = some y) && decide (k.N[l]? = some z) && decide (i ≠ j) && decide (i ≠ l) && decide (j ≠ l) && loc1 k.sc xp.line (.Name x xp) && loc1 k.sc xp.line (.Name y yp) && loc1 k.sc xp.line (.Name z zp) && parB k.sc [a, b, c] && decide (x ≠ y) && decide (x ≠ z) && decide (y ≠ z) && ckEs cs k [a, b, c]
      | _ => false)
    | _ => false)
  | .fset i f c, k, s => (match s with
    | .Assign [.Attribute o n _] v _ => ckVar k i o && decide (n = f.str) && notComp v && ckE c k v
    | _ => false)
  | .fadd i f c, k, s => (match s with
    | .Assign [.Attribute o n _] v _ => ckVar k i o && decide (n = f.str) && notComp v && ckE c k v
    | _ => false)
  | .exp c, k, s => (match s with
    | .Expr v _ => notComp v && ckE c k v
    | _ => false)
  | .ret c, k, s => (match s with
    | .Return (some v) _ => ckE c k v
    | _ => false)
  | .ifs c a b, k, s => (match s with
    | .If t p q _ => ckT c k t && ckSs a k p && ckSs b k q
    | _ => false)
  | .fr p it b, k, s => (match s with
    | .For tg iter body [] _ => notSet iter && ckIt it k tg iter && ckP p k tg && ckSs b k body
    | _ => false)
  | .whl c b, k, s => (match s with
    | .While t body [] _ => ckT c k t && ckSs b k body
    | _ => false)
  | .raise, _, _ => true
  | .pass, _, s => (match s with
    | .Pass _ => true
    | .Expr (.Constant (.str _) _ _) _ => true
    | _ => false)
  | .brk, _, s => (match s with
    | .Break _ => true
    | _ => false)
  | .cont, _, s => (match s with
    | .Continue _ => true
    | _ => false)
  | .thru b, k, s => (match s with
    | .Try body (_ :: _) [] [] _ => ckSs b k body
    | _ => false)
def ckSs : Ss → Ck → List Stmt → Bool
  | .nil, _, l => l.isEmpty
  | .cons s r, k, l => (match l with
    | x :: xs => ckS s k x && ckSs r k xs
    | [] => false)
end

section
variable {Γ : Gam} {G : Cxt} {lv : Nat} {X : Cx} {k : Ck}
theorem ckT_ok : ∀ (c : E) {k : Ck} {X : Cx} {e : Expr}, CkOk k Γ G lv X → ckT c k e = true → PT X e (tT Γ G c) ∧ (isBool e = true → PW X e (tT Γ G c)) := by
  have gen : ∀ (c : E) {k : Ck} {X : Cx} {e : Expr}, generic c = true → CkOk k Γ G lv X → (tstB e && ckE c k e) = true → PT X e (tT Γ G c) ∧ (isBool e = true → PW X e (tT Γ G c)) := fun c k X e hg K h => by
    have h' := (Bool.and_eq_true _ _).mp h
    refine ⟨((ckE_ok c K h'.2).2 h'.1).imp (tT_of hg), fun z => ?_⟩
    cases e <;> first | cases z | skip
    cases h'.1
  intro c
  induction c using E.rec (motive_2 := fun _ => True) (motive_3 := fun _ => True) (motive_4 := fun _ => True) (motive_5 := fun _ => True) (motive_6 := fun _ => True) (motive_7 := fun _ => True) (motive_8 := fun _ => True) with
  | and a b iha ihb =>
    intro k X e K h
    simp only [ckT] at h
    split at h
    · rename_i x y r pos
      obtain ⟨h1, h2⟩ := (Bool.and_eq_true _ _).mp h
      have pa := (iha K h1).1
      have pw : PW X (.BoolOp .And (x :: y :: r) pos) (tT Γ G (.and a b)) := by
        cases r with
        | nil => exact t_and pa (pw_and1 (ihb K h2).1)
        | cons z r => exact t_and pa ((ihb K h2).2 rfl)
      exact ⟨pw.pt, fun _ => pw⟩
    · cases h
  | or a b iha ihb =>
    intro k X e K h
    simp only [ckT] at h
    split at h
    · rename_i x y r pos
      obtain ⟨h1, h2⟩ := (Bool.and_eq_true _ _).mp h
      have pa := (iha K h1).1
      have pw : PW X (.BoolOp .Or (x :: y :: r) pos) (tT Γ G (.or a b)) := by
        cases r with
        | nil => exact t_or pa (pw_or1 (ihb K h2).1)
        | cons z r => exact t_or pa ((ihb K h2).2 rfl)
      exact ⟨pw.pt, fun _ => pw⟩
    · cases h
  | not a iha =>
    intro k X e K h
    simp only [ckT] at h
    split at h
    · exact ⟨t_not (iha K h).1, fun z => by cases z⟩
    · cases h
  | _ => first | trivial | (intro k X e K h; exact gen _ rfl K h)
theorem sw_no {v : Expr} {t : Option Expr} {l : Nat} {env : PySem.Env} (h : notComp v = true) : swapsWith v t l env = pure false := by
  cases v <;> first | rfl | cases h
theorem swS_no {v t : Expr} {l : Nat} {env : PySem.Env} (h : notComp v = true) : swapsWithSole [t] v l env = pure false := sw_no h
theorem sw_lc {elt : Expr} {gens : List Comprehension} {scope : Scope} {cp xp : Pos} {x : Str} {l : Nat} {env : PySem.Env} : swapsWith (.ListComp elt gens scope cp) (some (.Name x xp)) l env = pure (swB env.scope x xp cp scope) := rfl
theorem blk_fn {env : PySem.Env} (h : env.scope.kind = .function) : env.blockKind = .function := by
  unfold PySem.Env.blockKind
  rw [h]; rfl
theorem fm_lt {α β : Type} (f : α → Option β) : ∀ {l : List α}, (∃ x ∈ l, f x = none) → (l.filterMap f).length ≠ l.length
  | [], ⟨x, hx, _⟩ => by cases hx
  | a :: l, ⟨x, hx, e⟩ => by
    intro hl
    have le := List.length_filterMap_le f l
    rcases List.mem_cons.mp hx with rfl | hx
    · rw [List.filterMap_cons_none e, List.length_cons] at hl
      omega
    · cases q : f a with
      | none =>
        rw [List.filterMap_cons_none q, List.length_cons] at hl
        omega
      | some b =>
        rw [List.filterMap_cons_some q, List.length_cons, List.length_cons] at hl
        exact fm_lt f ⟨x, hx, e⟩ (by omega)
theorem noSw_ok {t v : Expr} {env : PySem.Env} (h : noSw env.scope t v = true) : swappedStores [t] v env = pure none := by
  cases t <;> first | rfl | cases h | skip
  rename_i ts kt tp
  cases v <;> first | rfl | skip
  rename_i vs kv vp
  have h' : vs.all (foldedForSure 8) = true ∨ ts.any (fun t => !loc1 env.scope ((ts.head?.map (·.pos.line)).getD 0) t) = true := (Bool.or_eq_true _ _).mp h
  unfold swappedStores
  simp only [pure_bind]
  split
  · rfl
  · split
    · rfl
    · split
      · rfl
      · rename_i h3
        split
        · rfl
        · rename_i h4
          exfalso
          rcases h' with h' | h'
          · exact h4 h'
          · obtain ⟨t, ht, hl⟩ := List.any_eq_true.mp h'
            refine h3 ?_
            rw [Bool.or_eq_true]
            left
            rw [bne_iff_ne]
            refine fm_lt _ ⟨t, ht, ?_⟩
            cases t <;> first | rfl | skip
            rename_i x p
            simp only [loc1, Bool.not_eq_true', Bool.and_eq_false_iff, decide_eq_false_iff_not] at hl
            have : ¬ ((env.kindOf x == some .local && p.line == (ts.head?.map (·.pos.line)).getD 0) = true) := by
              intro z
              obtain ⟨z1, z2⟩ := (Bool.and_eq_true _ _).mp z
              rcases hl with hl | hl
              · have z3 : env.kindOf x = some .local := by simpa using z1
                exact hl z3
              · rw [hl] at z2; cases z2
            simp only [if_neg this]
end
end DL

/-! DLt -/
namespace DL
open PySem PySem.Spec PyProof.Rows L2

section
variable {Γ : Gam} {G : Cxt} {lv : Nat}
theorem loc1_ok {sc : Scope} {l : Nat} {x : Str} {p : Pos} (h : loc1 sc l (.Name x p) = true) : sc.names.lookup x = some .local ∧ p.line = l := by
  simp only [loc1, Bool.and_eq_true, decide_eq_true_eq, beq_iff_eq] at h
  exact h
theorem sw2 {env : PySem.Env} {x y : Str} {xp yp tp vp : Pos} {kt kv : Nat} {a b : Expr} (hx : loc1 env.scope xp.line (.Name x xp) = true) (hy : loc1 env.scope xp.line (.Name y yp) = true) (hp : parB env.scope [a, b] = true) (hne : x ≠ y) :
    swappedStores [.Tuple [.Name x xp, .Name y yp] kt tp] (.Tuple [a, b] kv vp) env = pure (some [x, y]) := by
  have h1 := loc1_ok hx
  have h2 := loc1_ok hy
  simp only [parB, Bool.and_eq_true, decide_eq_true_eq, Bool.not_eq_true'] at hp
  obtain ⟨⟨⟨p1, p2⟩, p3⟩, p4⟩ := hp
  have e1 : env.kindOf x = some .local := h1.1
  have e2 : env.kindOf y = some .local := h2.1
  unfold swappedStores
  simp only [pure_bind]
  rw [if_neg (by rw [blk_fn p1]; simp)]
  rw [if_neg (by
    intro z
    obtain ⟨v, hv, hz⟩ := List.any_eq_true.mp z
    have := List.all_eq_true.mp p2 v hv
    cases v <;> first | exact Bool.false_ne_true hz | exact Bool.false_ne_true this)]
  have hf : ∀ f : Expr → Option Str, f (.Name x xp) = some x → f (.Name y yp) = some y → [Expr.Name x xp, Expr.Name y yp].filterMap f = [x, y] := fun f a b => by simp [List.filterMap_cons, a, b]
  have hif : ∀ (q : Str) (c : Bool), c = true → (if c = true then some q else none) = some q := fun q c h => if_pos h
  rw [hf _ (hif x _ (by rw [e1]; simp [PySem.Expr.pos])) (hif y _ (by rw [e2, h2.2]; simp [PySem.Expr.pos]))]
  have hd : [x, y].eraseDups = [x, y] := by
    have : (y == x) = false := by simpa using fun z : y = x => hne z.symm
    simp [List.eraseDups_cons, this]
  rw [hd]
  rw [if_neg (by simp)]
  rw [if_neg (by rw [p3]; simp)]
  rw [if_neg (by rw [p4]; simp)]
theorem sw3 {env : PySem.Env} {x y z : Str} {xp yp zp tp vp : Pos} {kt kv : Nat} {a b c : Expr} (hx : loc1 env.scope xp.line (.Name x xp) = true) (hy : loc1 env.scope xp.line (.Name y yp) = true) (hz : loc1 env.scope xp.line (.Name z zp) = true) (hp : parB env.scope [a, b, c] = true) (h12 : x ≠ y) (h13 : x ≠ z) (h23 : y ≠ z) :
    swappedStores [.Tuple [.Name x xp, .Name y yp, .Name z zp] kt tp] (.Tuple [a, b, c] kv vp) env = pure (some [x, y, z]) := by
  have h1 := loc1_ok hx
  have h2 := loc1_ok hy
  have h3 := loc1_ok hz
  simp only [parB, Bool.and_eq_true, decide_eq_true_eq, Bool.not_eq_true'] at hp
  obtain ⟨⟨⟨p1, p2⟩, p3⟩, p4⟩ := hp
  have e1 : env.kindOf x = some .local := h1.1
  have e2 : env.kindOf y = some .local := h2.1
  have e3 : env.kindOf z = some .local := h3.1
  unfold swappedStores
  simp only [pure_bind]
  rw [if_neg (by rw [blk_fn p1]; simp)]
  rw [if_neg (by
    intro z
    obtain ⟨v, hv, hz⟩ := List.any_eq_true.mp z
    have := List.all_eq_true.mp p2 v hv
    cases v <;> first | exact Bool.false_ne_true hz | exact Bool.false_ne_true this)]
  have hf : ∀ f : Expr → Option Str, f (.Name x xp) = some x → f (.Name y yp) = some y → f (.Name z zp) = some z → [Expr.Name x xp, Expr.Name y yp, Expr.Name z zp].filterMap f = [x, y, z] := fun f a b c => by simp [List.filterMap_cons, a, b, c]
  have hif : ∀ (q : Str) (c : Bool), c = true → (if c = true then some q else none) = some q := fun q c h => if_pos h
  rw [hf _ (hif x _ (by rw [e1]; simp [PySem.Expr.pos])) (hif y _ (by rw [e2, h2.2]; simp [PySem.Expr.pos])) (hif z _ (by rw [e3, h3.2]; simp [PySem.Expr.pos]))]
  have hd : [x, y, z].eraseDups = [x, y, z] := by
    have a1 : (y == x) = false := by simpa using fun z : y = x => h12 z.symm
    have a2 : (z == x) = false := by simpa using fun q : z = x => h13 q.symm
    have a3 : (z == y) = false := by simpa using fun q : z = y => h23 q.symm
    simp [List.eraseDups_cons, a1, a2, a3]
  rw [hd]
  rw [if_neg (by simp)]
  rw [if_neg (by rw [p3]; simp)]
  rw [if_neg (by rw [p4]; simp)]
theorem nox_ok {k : Ck} {X : Cx} (K : CkOk k Γ G lv X) : CkOk k Γ G lv X.nox where
  wd := ⟨K.wd.K, K.wd.mg, K.wd.calm, K.wd.nd, K.wd.room, K.wd.fn, K.wd.cst, K.wd.ini, K.wd.met, K.wd.cls, K.wd.blt⟩
  N := K.N
  sc := K.sc
  fn := K.fn
  nf := K.nf
  nc := K.nc
  ni := K.ni
  nm := K.nm
mutual
theorem ckS_ok : ∀ (c : S) {k : Ck} {X : Cx} {s : Stmt}, CkOk k Γ G lv X → X.xe = (fun _ _ => False) → ckS c k s = true → PS X s (tS Γ G c)
  | .asg p c, k, X, s, K, hx, h => by
    simp only [ckS] at h
    split at h
    · rename_i t v pos
      rw [Bool.and_eq_true] at h
      obtain ⟨ht, h⟩ := h
      split at h
      · rename_i i
        split at h
        · rename_i x xp
          simp only [Bool.and_eq_true, decide_eq_true_eq] at h
          obtain ⟨⟨⟨⟨h1, h2⟩, h3⟩, h4⟩, h5⟩ := h
          have hN : X.N[i]? = some x := by rw [K.N]; exact h1
          split at h5
          · rename_i elt gens scope cp
            simp only [Bool.and_eq_true, Bool.or_eq_true, Bool.not_eq_true'] at h5
            cases hs : swB k.sc x xp cp scope with
            | false =>
              exact ss_nm (p := xp) K.wd hN (locB_ok K h2) (K.fn _ h3) (ckE_ok c K h4).1 (by rw [sw_lc, K.sc, hs])
            | true =>
              have h6 := h5.2.resolve_left (by rw [hs]; exact fun z => by cases z)
              split at h6
              · rename_i lp lit lcn lel lown
                have hl := of_decide_eq_true h6
                simp only [ckE] at h4
                split at h4
                · rename_i elt' tg iter ifs scope' cp' heq
                  cases heq
                  simp only [Bool.and_eq_true] at h4
                  obtain ⟨⟨⟨⟨⟨⟨g1, g2⟩, g3⟩, g4⟩, g5⟩, g6⟩, g7⟩ := h4
                  have hpv : ∀ j ∈ pvars lp, j ∈ (ownL k lown).map (·.2) := fun j hj => by
                    rw [ownL_snd]
                    have := List.all_eq_true.mp g3 j hj
                    simpa using this
                  have q := ss_nmLc (i := i) (pos := pos) K.wd hN (by rw [K.sc]; exact hl) (by rw [sw_lc, K.sc, hs]) (ckIt_ok lit K g4) (own_ok K g1) (fun s H C cl fp => ckP_ok lp (into_ok K _ s H C cl fp) g5) (fun s H C cl fp => ckC_ok lcn (into_ok K _ s H C cl fp) g6) (fun s H C cl fp => (ckE_ok lel (into_ok K _ s H C cl fp) g7).1) (set_no g2 _) hpv (py := xp)
                  rw [ownL_snd] at q
                  exact q
                · cases h4
              · cases h6
          · exact ss_nm K.wd hN (locB_ok K h2) (K.fn _ h3) (ckE_ok c K h4).1 (sw_no h5)
        · cases h
      · rename_i hp
        simp only [Bool.and_eq_true] at h
        obtain ⟨⟨⟨h1, h2⟩, h3⟩, h4⟩ := h
        exact ss_pat (fun i z => hp i z) (ckE_ok c K h2).1 (ckP_ok p K h1) (swS_no h3) (noSw_ok (by rw [K.sc]; exact h4)) (by rw [star_asg ht]; rfl)
    · cases h
  | .par is cs, k, X, s, K, hx, h => by
    simp only [ckS] at h
    split at h
    · split at h
      · simp only [Bool.and_eq_true, decide_eq_true_eq] at h
        obtain ⟨⟨⟨⟨⟨⟨⟨h1, h2⟩, h3⟩, h4⟩, h5⟩, h6⟩, h7⟩, h8⟩ := h
        rw [← K.sc] at h4 h5 h6
        exact ss_par2 K.wd (by rw [K.N]; exact h1) (by rw [K.N]; exact h2) h3 (loc1_ok h4).1 (loc1_ok h5).1 (ckEs_ok cs K h8) (sw2 h4 h5 h6 h7) rfl
      · cases h
    · split at h
      · simp only [Bool.and_eq_true, decide_eq_true_eq] at h
        obtain ⟨⟨⟨⟨⟨⟨⟨⟨⟨⟨⟨⟨⟨h1, h2⟩, h3⟩, h4⟩, h5⟩, h6⟩, h7⟩, h8⟩, h9⟩, h10⟩, h11⟩, h12⟩, h13⟩, h14⟩ := h
        rw [← K.sc] at h7 h8 h9 h10
        exact ss_par3 K.wd (by rw [K.N]; exact h1) (by rw [K.N]; exact h2) (by rw [K.N]; exact h3) h4 h5 h6 (loc1_ok h7).1 (loc1_ok h8).1 (loc1_ok h9).1 (ckEs_ok cs K h14) (sw3 h7 h8 h9 h10 h11 h12 h13) rfl
      · cases h
    · cases h
  | .fset i f c, k, X, s, K, hx, h => by
    simp only [ckS] at h
    split at h
    · simp only [Bool.and_eq_true, decide_eq_true_eq] at h
      obtain ⟨⟨⟨h1, rfl⟩, h3⟩, h4⟩ := h
      obtain ⟨x, q, rfl, v1, v2, v3, v4⟩ := ckVar_ok K h1
      exact ss_fset K.wd v1 v2 v3 v4 (ckE_ok c K h4).1 (sw_no h3)
    · cases h
  | .fadd i f c, k, X, s, K, hx, h => by
    simp only [ckS] at h
    split at h
    · simp only [Bool.and_eq_true, decide_eq_true_eq] at h
      obtain ⟨⟨⟨h1, rfl⟩, h3⟩, h4⟩ := h
      obtain ⟨x, q, rfl, v1, v2, v3, v4⟩ := ckVar_ok K h1
      exact ss_fadd K.wd v1 v2 v3 v4 (ckE_ok c K h4).1 (sw_no h3)
    · cases h
  | .exp c, k, X, s, K, hx, h => by
    simp only [ckS] at h
    split at h
    · simp only [Bool.and_eq_true] at h
      exact ss_exp (ckE_ok c K h.2).1 (sw_no h.1)
    · cases h
  | .ret c, k, X, s, K, hx, h => by
    simp only [ckS] at h
    split at h
    · exact ss_ret (ckE_ok c K h).1
    · cases h
  | .ifs c a b, k, X, s, K, hx, h => by
    simp only [ckS] at h
    split at h
    · simp only [Bool.and_eq_true] at h
      exact ss_if (ckT_ok c K h.1.1).1 (ckSs_ok a K hx h.1.2) (ckSs_ok b K hx h.2)
    · cases h
  | .fr p it b, k, X, s, K, hx, h => by
    simp only [ckS] at h
    split at h
    · simp only [Bool.and_eq_true] at h
      obtain ⟨⟨⟨h1, h2⟩, h3⟩, h4⟩ := h
      exact ss_for K.wd hx (ckIt_ok it K h2) (ckP_ok p K h3) (ckSs_ok b K hx h4) (set_no h1 _)
    · cases h
  | .whl c b, k, X, s, K, hx, h => by
    simp only [ckS] at h
    split at h
    · simp only [Bool.and_eq_true] at h
      exact ss_while hx (ckT_ok c K h.1).1 (ckSs_ok b K hx h.2)
    · cases h
  | .raise, k, X, s, K, hx, h => ss_raise
  | .pass, k, X, s, K, hx, h => by
    simp only [ckS] at h
    split at h
    · exact ss_pass
    · exact ss_doc
    · cases h
  | .brk, k, X, s, K, hx, h => by
    simp only [ckS] at h
    split at h
    · exact ss_brk
    · cases h
  | .cont, k, X, s, K, hx, h => by
    simp only [ckS] at h
    split at h
    · exact ss_cont
    · cases h
  | .thru b, k, X, s, K, hx, h => by
    simp only [ckS] at h
    split at h
    · exact ss_thru (ckSs_ok b (nox_ok K) rfl h)
    · cases h
theorem ckSs_ok : ∀ (c : Ss) {k : Ck} {X : Cx} {l : List Stmt}, CkOk k Γ G lv X → X.xe = (fun _ _ => False) → ckSs c k l = true → PSs X l (tSs Γ G c)
  | .nil, k, X, l, K, hx, h => by
    cases l with
    | nil => exact ss_nil
    | cons a b => simp [ckSs] at h
  | .cons s r, k, X, l, K, hx, h => by
    cases l with
    | nil => simp [ckSs] at h
    | cons a b =>
      simp only [ckSs, Bool.and_eq_true] at h
      exact ss_cons (ckS_ok s K hx h.1) (ckSs_ok r K hx h.2)
end
end
end DL

/-! DLu -/
namespace DL
open PySem PySem.Spec PyProof.Rows L2

/-! ## a def, checked and promised -/
def ckTop (Γ : Gam) (N : List Str) (sc : Scope) : Ck := ⟨N, sc, none, Γ.fn.map (·.1), Γ.cst.map (·.1), Γ.ini.map fun p => (p.1, p.2.1), Γ.met.map fun p => (p.1, p.2.1)⟩
def scB (N ps : List Str) (sc : Scope) : Bool := decide (sc.kind = .function) && !sc.isCoroutine && !sc.isGenerator && decide N.Nodup && decide (N.take ps.length = ps) && ps.all (fun x => decide (sc.names.lookup x = some .local ∨ sc.names.lookup x = some .cell)) && sc.names.all fun y => decide (y.2 ≠ .free)
theorem scB_ok {N ps : List Str} {sc : Scope} (h : scB N ps sc = true) : FnScope N ps sc := by
  simp only [scB, Bool.and_eq_true, decide_eq_true_eq, Bool.not_eq_true'] at h
  obtain ⟨⟨⟨⟨⟨⟨h1, h2⟩, h3⟩, h4⟩, h5⟩, h6⟩, h7⟩ := h
  exact ⟨h1, h2, h3, h4, h5, fun x hx => of_decide_eq_true (List.all_eq_true.mp h6 x hx), fun y hy => of_decide_eq_true (List.all_eq_true.mp h7 y hy)⟩
/-- all that is decided of a def -/
def ckDefN (nf nc : List Str) (ni nm : List (Cn × Str)) (N ps : List Str) (c : Ss) (st : Stmt) : Bool := scB N ps (defScope st) && ckSs c ⟨N, defScope st, none, nf, nc, ni, nm⟩ (defBody st)
abbrev ckDef (Γ : Gam) (N ps : List Str) (c : Ss) (st : Stmt) : Bool := ckDefN (Γ.fn.map (·.1)) (Γ.cst.map (·.1)) (Γ.ini.map fun p => (p.1, p.2.1)) (Γ.met.map fun p => (p.1, p.2.1)) N ps c st
section
variable {Γ : Gam} {G : Cxt} {lv : Nat} {X : Cx}
theorem top_ok {N : List Str} {sc : Scope} (T : Top Γ G lv N sc X) : CkOk (ckTop Γ N sc) Γ G lv X where
  wd := T.wd
  N := T.N
  sc := T.sc
  fn := fun x _ => .inl (T.fn x)
  nf := fun j x h => by
    have h' : (Γ.fn.map (·.1))[j]? = some x := h
    rw [List.getElem?_map] at h'
    obtain ⟨p, h1, rfl⟩ := Option.map_eq_some_iff.mp h'
    exact ⟨p.2, h1⟩
  nc := fun j x h => by
    have h' : (Γ.cst.map (·.1))[j]? = some x := h
    rw [List.getElem?_map] at h'
    obtain ⟨p, h1, rfl⟩ := Option.map_eq_some_iff.mp h'
    exact ⟨p.2, h1⟩
  ni := fun j C x h => by
    have h' : (Γ.ini.map fun p => (p.1, p.2.1))[j]? = some (C, x) := h
    rw [List.getElem?_map] at h'
    obtain ⟨p, h1, e⟩ := Option.map_eq_some_iff.mp h'
    cases e
    exact ⟨p.2.2, h1⟩
  nm := fun j C x h => by
    have h' : (Γ.met.map fun p => (p.1, p.2.1))[j]? = some (C, x) := h
    rw [List.getElem?_map] at h'
    obtain ⟨p, h1, e⟩ := Option.map_eq_some_iff.mp h'
    cases e
    exact ⟨p.2.2, h1⟩
variable {P : Program} {w : World} {base : Heap} {x qual : Str} {st : Stmt} {f : Addr} {fd : FuncData} {N ps : List Str} {c : Ss}
abbrev FnP (K : PySem.W.Frag) (x qual : Str) (st : Stmt) (f : Addr) (fd : FuncData) : Prop := FunD K x qual (defArgs st) (defBody st) (defScope st) [] [] f fd
theorem fn_of {S : Spec} (W : Wo Γ G P w base lv) (F : FnP G.K x qual st f fd) (hck : ckDef Γ N ps c st = true) (hb : Body Γ N.length ps.length c S) : FnOk P w G.K G.mg base CX0 (lv + 2) f fd ps (spOf G S) := by
  have h := (Bool.and_eq_true _ _).mp hck
  exact fn_ok W F (scB_ok h.1) (fun X T => ckSs_ok c (top_ok T) T.xe h.2) hb
theorem fnI_of {C : Cn} {S : ISpec} (W : Wo Γ G P w base lv) (F : FnP G.K x qual st f fd) (hck : ckDef Γ N ps c st = true) (hb : BodyI Γ C N.length ps.length c S) : FnOk P w G.K G.mg base CX0 (lv + 2) f fd ps (spI G C S) := by
  have h := (Bool.and_eq_true _ _).mp hck
  exact fnI_ok W F (scB_ok h.1) (fun X T => ckSs_ok c (top_ok T) T.xe h.2) hb
theorem has_of {S : Spec} (W : Wo Γ G P w base lv) (F : FnP G.K x qual st f fd) (hck : ckDef Γ N ps c st = true) (hb : Body Γ N.length ps.length c S) (hm : G.mg x = some (.ref f)) (hbd : Binds G.K fd ps []) : Has P w base G (lv + 2) x S :=
  ⟨f, fd, ps, fn_of W F hck hb, hm, F.kp, hbd⟩
theorem hasI_of {C : Cn} {S : ISpec} {y : Str} (W : Wo Γ G P w base lv) (F : FnP G.K x qual st f fd) (hck : ckDef Γ N ps c st = true) (hb : BodyI Γ C N.length ps.length c S) (M : Mk G.K (G.cl C) f) (hm : G.mg y = some (.ref (G.cl C))) (hbd : Binds G.K fd ps []) : HasI P w base G (lv + 2) C y S :=
  ⟨f, fd, ps, M, fnI_of W F hck hb, hm, hbd⟩
theorem hasM_of {C : Cn} {S : Spec} {m : Str} (W : Wo Γ G P w base lv) (F : FnP G.K x qual st f fd) (hck : ckDef Γ N ps c st = true) (hb : Body Γ N.length ps.length c S) (cl : Cls G.K (G.cl C)) (me : Meth G.K (G.cl C) m f) (hbd : Binds G.K fd ps []) (nf : ∀ g : Fn, g.str ≠ m) : HasM P w base G (lv + 2) C m S :=
  ⟨⟨f, fd, ps, cl, me, fn_of W F hck hb, hbd⟩, nf⟩
theorem Has.mono {S : Spec} {l l' : Nat} (h : Has P w base G l x S) (le : l ≤ l') : Has P w base G l' x S := by
  obtain ⟨f, fd, ps, F, r⟩ := h.ex
  exact ⟨f, fd, ps, F.mono le, r⟩
theorem HasI.mono {C : Cn} {S : ISpec} {l l' : Nat} (h : HasI P w base G l C x S) (le : l ≤ l') : HasI P w base G l' C x S := by
  obtain ⟨f, fd, ps, M, F, r⟩ := h.ex
  exact ⟨f, fd, ps, M, F.mono le, r⟩
theorem HasM.mono {C : Cn} {S : Spec} {l l' : Nat} (h : HasM P w base G l C x S) (le : l ≤ l') : HasM P w base G l' C x S := by
  obtain ⟨f, fd, ps, cl, me, F, r⟩ := h.ex
  exact ⟨⟨f, fd, ps, cl, me, F.mono le, r⟩, h.nf⟩
end
end DL

/-! DM0 -/
namespace DL
open PySem PySem.Spec PyProof.Rows L2

/-! ## reckoning with cores: equations that fire on what is known -/
section
variable {Γ : Gam} {ρ : Env} {Q : QE} {s : Sl}
@[simp ↓, simp] theorem q_var (i : Nat) : wpE Γ (.var i) (s :: ρ) Q = (match evVar (s :: ρ) i with
    | some e => Q e (s :: ρ)
    | none => False) := rfl
@[simp ↓, simp] theorem q_cst (d : D) : wpE Γ (.cst d) (s :: ρ) Q = Q (.val d) (s :: ρ) := rfl
@[simp ↓, simp] theorem q_glb (k : Nat) : wpE Γ (.glb k) (s :: ρ) Q = (match Γ.cst[k]? with
    | some p => Q (.val p.2) (s :: ρ)
    | none => False) := rfl
@[simp ↓, simp] theorem q_bin (o : BOp) (a b : E) : wpE Γ (.bin o a b) (s :: ρ) Q = wpE Γ a (s :: ρ) fun x ρ1 => wpE Γ b ρ1 fun y ρ2 => wpBin o ρ2 x y Q := rfl
def wpNeg (x : Ev) (ρ : Env) (Q : QE) : Prop := match x with
    | .val (.int i) => Q (.val (.int (-i))) ρ
    | _ => False
def isBl (x : Ev) (Q : Bool → Prop) : Prop := match x with
    | .val (.bl b) => Q b
    | _ => False
@[simp ↓, simp] theorem q_neg (a : E) : wpE Γ (.neg a) (s :: ρ) Q = wpE Γ a (s :: ρ) fun x ρ1 => wpNeg x ρ1 Q := rfl
@[simp ↓, simp] theorem q_neg1 (i : Int) : wpNeg (.val (.int i)) (s :: ρ) Q = Q (.val (.int (-i))) (s :: ρ) := rfl
@[simp ↓, simp] theorem q_isBl (b : Bool) (K : Bool → Prop) : isBl (.val (.bl b)) K = K b := rfl
@[simp ↓, simp] theorem q_cmp (o : COp) (a b : E) : wpE Γ (.cmp o a b) (s :: ρ) Q = wpE Γ a (s :: ρ) fun x ρ1 => wpE Γ b ρ1 fun y ρ2 => wpCmp o ρ2 x y fun c => Q (.val (.bl c)) ρ2 := rfl
@[simp ↓, simp] theorem q_chn (o o' : COp) (a b c : E) : wpE Γ (.chn o o' a b c) (s :: ρ) Q = wpE Γ a (s :: ρ) fun x ρ1 => wpE Γ b ρ1 fun y ρ2 => wpCmpI o x y fun k => if k = true then wpE Γ c ρ2 fun z ρ3 => wpCmpI o' y z fun k' => Q (.val (.bl k')) ρ3 else Q (.val (.bl false)) ρ2 := rfl
@[simp ↓, simp] theorem q_chn3 (o o' o'' : COp) (a b c d : E) : wpE Γ (.chn3 o o' o'' a b c d) (s :: ρ) Q = wpE Γ a (s :: ρ) fun x ρ1 => wpE Γ b ρ1 fun y ρ2 => wpCmpI o x y fun k => if k = true then (wpE Γ c ρ2 fun z ρ3 => wpCmpI o' y z fun k' => if k' = true then wpE Γ d ρ3 fun w ρ4 => wpCmpI o'' z w fun k'' => Q (.val (.bl k'')) ρ4 else Q (.val (.bl false)) ρ3) else Q (.val (.bl false)) ρ2 := rfl
@[simp ↓, simp] theorem q_isN (p : Bool) (a : E) : wpE Γ (.isN p a) (s :: ρ) Q = wpE Γ a (s :: ρ) fun x ρ1 => Q (.val (.bl (isNon x == p))) ρ1 := rfl
@[simp ↓, simp] theorem q_inn (p : Bool) (a b : E) : wpE Γ (.inn p a b) (s :: ρ) Q = wpE Γ a (s :: ρ) fun x ρ1 => wpE Γ b ρ1 fun y ρ2 => wpIn p ρ2 x y fun c => Q (.val (.bl c)) ρ2 := rfl
@[simp ↓, simp] theorem q_and (a b : E) : wpE Γ (.and a b) (s :: ρ) Q = wpE Γ a (s :: ρ) fun x ρ1 => isBl x fun c => if c = true then wpE Γ b ρ1 Q else Q (.val (.bl false)) ρ1 := rfl
@[simp ↓, simp] theorem q_or (a b : E) : wpE Γ (.or a b) (s :: ρ) Q = wpE Γ a (s :: ρ) fun x ρ1 => isBl x fun c => if c = true then Q (.val (.bl true)) ρ1 else wpE Γ b ρ1 Q := rfl
@[simp ↓, simp] theorem q_not (a : E) : wpE Γ (.not a) (s :: ρ) Q = wpE Γ a (s :: ρ) fun x ρ1 => isBl x fun c => Q (.val (.bl (!c))) ρ1 := rfl
@[simp ↓, simp] theorem q_ix (a b : E) : wpE Γ (.ix a b) (s :: ρ) Q = wpE Γ a (s :: ρ) fun x ρ1 => wpE Γ b ρ1 fun y ρ2 => wpIx ρ2 x y Q := rfl
@[simp ↓, simp] theorem q_sl (a : E) (lo hi : Eo) : wpE Γ (.sl a lo hi) (s :: ρ) Q = wpE Γ a (s :: ρ) fun x ρ1 => wpO Γ lo ρ1 fun l ρ2 => wpO Γ hi ρ2 fun h ρ3 => wpSl ρ3 x l h Q := rfl
def wpTup (evs : List Ev) (ρ : Env) (Q : QE) : Prop := evs.length ≤ 1000 ∧ (match valsOf evs with
    | some ds => Q (.val (.tup ds)) ρ
    | none => False)
def wpLst (evs : List Ev) (ρ : Env) (Q : QE) : Prop := evs.length ≤ 1000 ∧ (match valsOf evs with
    | some ds => Q (.tmp ds) ρ
    | none => False)
def wpCall (p : Option (Str × Spec)) (ρ : Env) (evs : List Ev) (Q : QE) : Prop := match p, slsOf ρ evs with
    | some p, some ss => (touch evs).Nodup ∧ p.2 ss fun r ss' => wbOk evs ss' ∧ Q (evOf r) (wb ρ evs ss')
    | _, _ => False
@[simp ↓, simp] theorem q_tup (es : Es) : wpE Γ (.tup es) (s :: ρ) Q = wpEs Γ es (s :: ρ) fun evs ρ1 => wpTup evs ρ1 Q := rfl
@[simp ↓, simp] theorem q_lst (es : Es) : wpE Γ (.lst es) (s :: ρ) Q = wpEs Γ es (s :: ρ) fun evs ρ1 => wpLst evs ρ1 Q := rfl
@[simp ↓, simp] theorem q_call (k : Nat) (es : Es) : wpE Γ (.call k es) (s :: ρ) Q = wpEs Γ es (s :: ρ) fun evs ρ1 => wpCall Γ.fn[k]? ρ1 evs Q := rfl
@[simp ↓, simp] theorem q_tup0 : wpTup [] (s :: ρ) Q = Q (.val (.tup [])) (s :: ρ) := by simp [wpTup, valsOf]
@[simp ↓, simp] theorem q_tup1 (a : D) : wpTup [.val a] (s :: ρ) Q = Q (.val (.tup [a])) (s :: ρ) := by simp [wpTup, valsOf]
@[simp ↓, simp] theorem q_tup2 (a b : D) : wpTup [.val a, .val b] (s :: ρ) Q = Q (.val (.tup [a, b])) (s :: ρ) := by simp [wpTup, valsOf]
@[simp ↓, simp] theorem q_tup3 (a b c : D) : wpTup [.val a, .val b, .val c] (s :: ρ) Q = Q (.val (.tup [a, b, c])) (s :: ρ) := by simp [wpTup, valsOf]
@[simp ↓, simp] theorem q_tup4 (a b c d : D) : wpTup [.val a, .val b, .val c, .val d] (s :: ρ) Q = Q (.val (.tup [a, b, c, d])) (s :: ρ) := by simp [wpTup, valsOf]
@[simp ↓, simp] theorem q_lst0 : wpLst [] (s :: ρ) Q = Q (.tmp []) (s :: ρ) := by simp [wpLst, valsOf]
@[simp ↓, simp] theorem q_lst1 (a : D) : wpLst [.val a] (s :: ρ) Q = Q (.tmp [a]) (s :: ρ) := by simp [wpLst, valsOf]
@[simp ↓, simp] theorem q_lst2 (a b : D) : wpLst [.val a, .val b] (s :: ρ) Q = Q (.tmp [a, b]) (s :: ρ) := by simp [wpLst, valsOf]
@[simp ↓, simp] theorem q_lst4 (a b c d : D) : wpLst [.val a, .val b, .val c, .val d] (s :: ρ) Q = Q (.tmp [a, b, c, d]) (s :: ρ) := by simp [wpLst, valsOf]
@[simp ↓, simp] theorem q_lst6 (a b c d e f : D) : wpLst [.val a, .val b, .val c, .val d, .val e, .val f] (s :: ρ) Q = Q (.tmp [a, b, c, d, e, f]) (s :: ρ) := by simp [wpLst, valsOf]
@[simp ↓, simp] theorem q_lst8 (a b c d e f g h : D) : wpLst [.val a, .val b, .val c, .val d, .val e, .val f, .val g, .val h] (s :: ρ) Q = Q (.tmp [a, b, c, d, e, f, g, h]) (s :: ρ) := by simp [wpLst, valsOf]
@[simp ↓, simp] theorem q_bif (f : Bif) (es : Es) : wpE Γ (.bif f es) (s :: ρ) Q = wpEs Γ es (s :: ρ) fun evs ρ1 => wpBif f ρ1 evs Q := rfl
@[simp ↓, simp] theorem q_isi (a : E) (t : Ty) : wpE Γ (.isi a t) (s :: ρ) Q = wpE Γ a (s :: ρ) fun x ρ1 => wpIsi x t fun c => Q (.val (.bl c)) ρ1 := rfl
@[simp ↓, simp] theorem q_fld (i : Nat) (f : Fn) : wpE Γ (.fld i f) (s :: ρ) Q = (match evFld Γ (s :: ρ) i f with
    | some e => Q e (s :: ρ)
    | none => False) := rfl
@[simp ↓, simp] theorem q_new (k : Nat) (es : Es) : wpE Γ (.new k es) (s :: ρ) Q = wpEs Γ es (s :: ρ) fun evs ρ1 => (match Γ.ini[k]?, slsOf ρ1 evs with
    | some p, some ss => (touch evs).Nodup ∧ p.2.2 ss fun fs ss' => wbOk evs ss' ∧ Q (.obj p.1 fs) (wb ρ1 evs ss')
    | _, _ => False) := rfl
@[simp ↓, simp] theorem q_lm (p : Pn) (m : LM) (es : Es) : wpE Γ (.lm p m es) (s :: ρ) Q = (match plOf Γ (s :: ρ) p with
    | some pl => wpEs Γ es (s :: ρ) fun evs ρ1 => wpLm pl m ρ1 evs Q
    | none => False) := rfl
@[simp ↓, simp] theorem q_meth (k i : Nat) (es : Es) : wpE Γ (.meth k i es) (s :: ρ) Q = (match (s :: ρ)[i]?, Γ.met[k]? with
    | some (.ins C fs), some (C', m, S) => C = C' ∧ wpEs Γ es (s :: ρ) fun evs ρ1 => (match slsOf ρ1 (.at_ (.slot i) :: evs) with
      | some ss => (touch (.at_ (.slot i) :: evs)).Nodup ∧ S ss fun r ss' => wbOk evs (ss'.drop 1) ∧ Q (evOf r) (wb ρ1 (.at_ (.slot i) :: evs) ss')
      | none => False)
    | _, _ => False) := rfl
def wpLzip (ρ : Env) (x y : Ev) (Q : QE) : Prop := match lstOf ρ x, lstOf ρ y with
    | some ds, some es => min ds.length es.length ≤ 100000 ∧ Q (.tmp (pairs ds es)) ρ
    | _, _ => False
@[simp ↓, simp] theorem q_lzip (a b : E) : wpE Γ (.lzip a b) (s :: ρ) Q = wpE Γ a (s :: ρ) fun x ρ1 => wpE Γ b ρ1 fun y ρ2 => wpLzip ρ2 x y Q := rfl
@[simp ↓, simp] theorem q_lzipT (ds es : List D) : wpLzip (s :: ρ) (.tmp ds) (.tmp es) Q = (min ds.length es.length ≤ 100000 ∧ Q (.tmp (pairs ds es)) (s :: ρ)) := rfl
@[simp ↓, simp] theorem q_isB (p : Bool) (a : E) (b : Bool) : wpE Γ (.isB p a b) (s :: ρ) Q = wpE Γ a (s :: ρ) fun x ρ1 => isBl x fun c => Q (.val (.bl ((c == b) == p))) ρ1 := rfl
variable {QA : List Ev → Env → Prop}
@[simp ↓, simp] theorem q_nil : wpEs Γ .nil (s :: ρ) QA = QA [] (s :: ρ) := rfl
@[simp ↓, simp] theorem q_cons (e : E) (es : Es) : wpEs Γ (.cons e es) (s :: ρ) QA = wpE Γ e (s :: ρ) fun x ρ1 => wpEs Γ es ρ1 fun xs ρ2 => QA (x :: xs) ρ2 := rfl
def wpIo (x : Ev) (K : Option Int → Prop) : Prop := match x with
    | .val (.int i) => K (some i)
    | _ => False
@[simp ↓, simp] theorem q_io (i : Int) (K : Option Int → Prop) : wpIo (.val (.int i)) K = K (some i) := rfl
@[simp ↓, simp] theorem q_no (K : Option Int → Env → Prop) : wpO Γ .no (s :: ρ) K = K none (s :: ρ) := rfl
@[simp ↓, simp] theorem q_yes (e : E) (K : Option Int → Env → Prop) : wpO Γ (.yes e) (s :: ρ) K = wpE Γ e (s :: ρ) fun x ρ1 => wpIo x fun o => K o ρ1 := rfl
@[simp ↓, simp] theorem q_cno (K : Bool → Env → Prop) : wpC Γ .no (s :: ρ) K = K true (s :: ρ) := rfl
@[simp ↓, simp] theorem q_cyes (e : E) (K : Bool → Env → Prop) : wpC Γ (.yes e) (s :: ρ) K = wpE Γ e (s :: ρ) fun x ρ1 => isBl x fun b => K b ρ1 := rfl
variable {KI : Items → Env → Prop}
def wpSeq (ρ : Env) (x : Ev) (K : Items → Env → Prop) : Prop := match seqOf ρ x with
    | some ds => K ⟨ds, heldAt ρ x⟩ ρ
    | none => False
def wpR1 (ρ : Env) (x : Ev) (K : Items → Env → Prop) : Prop := match x with
    | .val (.int i) => (-100000 ≤ i ∧ i ≤ 100000) ∧ K ⟨intsL 0 i.toNat, []⟩ ρ
    | _ => False
def wpR2 (ρ : Env) (x y : Ev) (K : Items → Env → Prop) : Prop := match x, y with
    | .val (.int i), .val (.int j) => (-100000 ≤ i ∧ i ≤ 100000 ∧ -100000 ≤ j ∧ j ≤ 100000) ∧ K ⟨intsL i (j - i).toNat, []⟩ ρ
    | _, _ => False
@[simp ↓, simp] theorem q_seq (e : E) : wpIt Γ (.seq e) (s :: ρ) KI = wpE Γ e (s :: ρ) fun x ρ1 => wpSeq ρ1 x KI := rfl
@[simp ↓, simp] theorem q_r1 (e : E) : wpIt Γ (.r1 e) (s :: ρ) KI = wpE Γ e (s :: ρ) fun x ρ1 => wpR1 ρ1 x KI := rfl
@[simp ↓, simp] theorem q_r2 (a b : E) : wpIt Γ (.r2 a b) (s :: ρ) KI = wpE Γ a (s :: ρ) fun x ρ1 => wpE Γ b ρ1 fun y ρ2 => wpR2 ρ2 x y KI := rfl
@[simp ↓, simp] theorem q_seqT (ds : List D) : wpSeq (s :: ρ) (.val (.tup ds)) KI = KI ⟨ds, []⟩ (s :: ρ) := rfl
@[simp ↓, simp] theorem q_seqL (ds : List D) : wpSeq (s :: ρ) (.tmp ds) KI = KI ⟨ds, []⟩ (s :: ρ) := rfl
@[simp ↓, simp] theorem q_r1i (i : Int) : wpR1 (s :: ρ) (.val (.int i)) KI = ((-100000 ≤ i ∧ i ≤ 100000) ∧ KI ⟨intsL 0 i.toNat, []⟩ (s :: ρ)) := rfl
@[simp ↓, simp] theorem q_r2i (i j : Int) : wpR2 (s :: ρ) (.val (.int i)) (.val (.int j)) KI = ((-100000 ≤ i ∧ i ≤ 100000 ∧ -100000 ≤ j ∧ j ≤ 100000) ∧ KI ⟨intsL i (j - i).toNat, []⟩ (s :: ρ)) := rfl
variable {KP : Env → Prop}
@[simp ↓, simp] theorem q_pnm (i : Nat) (d : D) : wpPat Γ (.nm i) d (s :: ρ) KP = KP ((s :: ρ).set i (.fd (.val d))) := rfl
@[simp ↓, simp] theorem q_ptp (ps : Pats) (ds : List D) : wpPat Γ (.tp ps) (.tup ds) (s :: ρ) KP = (ds.length = lenP ps ∧ wpPats Γ ps ds (s :: ρ) KP) := rfl
@[simp ↓, simp] theorem q_pnil (ds : List D) : wpPats Γ .nil ds (s :: ρ) KP = (ds = [] ∧ KP (s :: ρ)) := rfl
@[simp ↓, simp] theorem q_pcons (p : Pat) (ps : Pats) (d : D) (r : List D) : wpPats Γ (.cons p ps) (d :: r) (s :: ρ) KP = wpPat Γ p d (s :: ρ) fun ρ1 => wpPats Γ ps r ρ1 KP := rfl
@[simp ↓, simp] theorem q_psub (p : Pn) (e : E) (d : D) : wpPat Γ (.sub p e) d (s :: ρ) KP = (match plOf Γ (s :: ρ) p with
    | some pl => wpE Γ e (s :: ρ) fun x ρ1 => (match x, lstAt ρ1 pl with
      | .val (.int i), some ds => ∃ k, ixN ds.length i = some k ∧ KP (setAt ρ1 pl (.lst (ds.set k d)))
      | _, _ => False)
    | none => False) := rfl
variable {KT : Bool → Env → Prop}
@[simp ↓, simp] theorem q_tand (a b : E) : wpT Γ (.and a b) (s :: ρ) KT = wpT Γ a (s :: ρ) fun c ρ1 => if c = true then wpT Γ b ρ1 KT else KT false ρ1 := rfl
@[simp ↓, simp] theorem q_tor (a b : E) : wpT Γ (.or a b) (s :: ρ) KT = wpT Γ a (s :: ρ) fun c ρ1 => if c = true then KT true ρ1 else wpT Γ b ρ1 KT := rfl
@[simp ↓, simp] theorem q_tnot (a : E) : wpT Γ (.not a) (s :: ρ) KT = wpT Γ a (s :: ρ) fun c ρ1 => KT (!c) ρ1 := rfl
theorem q_tgen (c : E) (h : generic c = true) : wpT Γ c ρ KT = wpE Γ c ρ fun x ρ1 => isBl x fun b => KT b ρ1 := wpT_gen h
@[simp ↓, simp] theorem q_tvar (i : Nat) : wpT Γ (.var i) (s :: ρ) KT = wpE Γ (.var i) (s :: ρ) fun x ρ1 => isBl x fun b => KT b ρ1 := rfl
@[simp ↓, simp] theorem q_tcst (d : D) : wpT Γ (.cst d) (s :: ρ) KT = wpE Γ (.cst d) (s :: ρ) fun x ρ1 => isBl x fun b => KT b ρ1 := rfl
@[simp ↓, simp] theorem q_tcmp (o : COp) (a b : E) : wpT Γ (.cmp o a b) (s :: ρ) KT = wpE Γ (.cmp o a b) (s :: ρ) fun x ρ1 => isBl x fun b => KT b ρ1 := rfl
@[simp ↓, simp] theorem q_tchn (o o' : COp) (a b c : E) : wpT Γ (.chn o o' a b c) (s :: ρ) KT = wpE Γ (.chn o o' a b c) (s :: ρ) fun x ρ1 => isBl x fun b => KT b ρ1 := rfl
@[simp ↓, simp] theorem q_tchn3 (o o' o'' : COp) (a b c d : E) : wpT Γ (.chn3 o o' o'' a b c d) (s :: ρ) KT = wpE Γ (.chn3 o o' o'' a b c d) (s :: ρ) fun x ρ1 => isBl x fun b => KT b ρ1 := rfl
@[simp ↓, simp] theorem q_tisN (p : Bool) (a : E) : wpT Γ (.isN p a) (s :: ρ) KT = wpE Γ (.isN p a) (s :: ρ) fun x ρ1 => isBl x fun b => KT b ρ1 := rfl
@[simp ↓, simp] theorem q_tisB (p : Bool) (a : E) (b : Bool) : wpT Γ (.isB p a b) (s :: ρ) KT = wpE Γ (.isB p a b) (s :: ρ) fun x ρ1 => isBl x fun b => KT b ρ1 := rfl
@[simp ↓, simp] theorem q_tinn (p : Bool) (a b : E) : wpT Γ (.inn p a b) (s :: ρ) KT = wpE Γ (.inn p a b) (s :: ρ) fun x ρ1 => isBl x fun b => KT b ρ1 := rfl
@[simp ↓, simp] theorem q_tcall (k : Nat) (es : Es) : wpT Γ (.call k es) (s :: ρ) KT = wpE Γ (.call k es) (s :: ρ) fun x ρ1 => isBl x fun b => KT b ρ1 := rfl
@[simp ↓, simp] theorem q_tmeth (k i : Nat) (es : Es) : wpT Γ (.meth k i es) (s :: ρ) KT = wpE Γ (.meth k i es) (s :: ρ) fun x ρ1 => isBl x fun b => KT b ρ1 := rfl
@[simp ↓, simp] theorem q_tbif (k : Bif) (es : Es) : wpT Γ (.bif k es) (s :: ρ) KT = wpE Γ (.bif k es) (s :: ρ) fun x ρ1 => isBl x fun b => KT b ρ1 := rfl
@[simp ↓, simp] theorem q_tisi (a : E) (t : Ty) : wpT Γ (.isi a t) (s :: ρ) KT = wpE Γ (.isi a t) (s :: ρ) fun x ρ1 => isBl x fun b => KT b ρ1 := rfl
@[simp ↓, simp] theorem q_tix (a b : E) : wpT Γ (.ix a b) (s :: ρ) KT = wpE Γ (.ix a b) (s :: ρ) fun x ρ1 => isBl x fun b => KT b ρ1 := rfl
variable {P : Post}
@[simp ↓, simp] theorem q_asgV (i : Nat) (d : D) : wpAsg Γ (.nm i) (.val d) (s :: ρ) KP = KP ((s :: ρ).set i (.fd (.val d))) := rfl
@[simp ↓, simp] theorem q_asgL (i : Nat) (ds : List D) : wpAsg Γ (.nm i) (.tmp ds) (s :: ρ) KP = KP ((s :: ρ).set i (.fd (.lst ds))) := rfl
@[simp ↓, simp] theorem q_asgO (i : Nat) (C : Cn) (fs : List (Fn × Fd)) : wpAsg Γ (.nm i) (.obj C fs) (s :: ρ) KP = KP ((s :: ρ).set i (.ins C fs)) := rfl
@[simp ↓, simp] theorem q_asgT (ps : Pats) (d : D) : wpAsg Γ (.tp ps) (.val d) (s :: ρ) KP = wpPat Γ (.tp ps) d (s :: ρ) KP := rfl
@[simp ↓, simp] theorem q_asgS (p : Pn) (e : E) (d : D) : wpAsg Γ (.sub p e) (.val d) (s :: ρ) KP = wpPat Γ (.sub p e) d (s :: ρ) KP := rfl
@[simp ↓, simp] theorem q_sasg (p : Pat) (e : E) : wpS Γ (.asg p e) (s :: ρ) P = wpE Γ e (s :: ρ) fun x ρ1 => wpAsg Γ p x ρ1 P.nx := rfl
@[simp ↓, simp] theorem q_spar (is : List Nat) (es : Es) : wpS Γ (.par is es) (s :: ρ) P = wpEs Γ es (s :: ρ) fun xs ρ1 => setAll is xs ρ1 P.nx := rfl
@[simp ↓, simp] theorem q_sexp (e : E) : wpS Γ (.exp e) (s :: ρ) P = wpE Γ e (s :: ρ) fun _ ρ1 => P.nx ρ1 := rfl
@[simp ↓, simp] theorem q_sret (e : E) : wpS Γ (.ret e) (s :: ρ) P = wpE Γ e (s :: ρ) P.rt := rfl
@[simp ↓, simp] theorem q_sifs (t : E) (a b : Ss) : wpS Γ (.ifs t a b) (s :: ρ) P = wpT Γ t (s :: ρ) fun c ρ1 => if c = true then wpSs Γ a ρ1 P else wpSs Γ b ρ1 P := rfl
@[simp ↓, simp] theorem q_sraise : wpS Γ .raise (s :: ρ) P = False := rfl
@[simp ↓, simp] theorem q_spass : wpS Γ .pass (s :: ρ) P = P.nx (s :: ρ) := rfl
@[simp ↓, simp] theorem q_sbrk : wpS Γ .brk (s :: ρ) P = P.bk (s :: ρ) := rfl
@[simp ↓, simp] theorem q_scont : wpS Γ .cont (s :: ρ) P = P.ct (s :: ρ) := rfl
@[simp ↓, simp] theorem q_snil : wpSs Γ .nil (s :: ρ) P = P.nx (s :: ρ) := rfl
@[simp ↓, simp] theorem q_scons (c : S) (r : Ss) : wpSs Γ (.cons c r) (s :: ρ) P = wpS Γ c (s :: ρ) { P with nx := fun ρ1 => wpSs Γ r ρ1 P } := rfl
@[simp ↓, simp] theorem q_sfset (i : Nat) (f : Fn) (e : E) : wpS Γ (.fset i f e) (s :: ρ) P = wpE Γ e (s :: ρ) fun x ρ1 => (match ρ1[i]?, x with
    | some (.ins C fs), .val d => (match ixOf f fs with
      | some k => (match fs[k]? with
        | some (_, .val _) => (Γ.cls.contains C && clsFd C f) = true ∧ P.nx (ρ1.set i (.ins C (fs.set k (f, .val d))))
        | _ => False)
      | none => False)
    | _, _ => False) := rfl
@[simp ↓, simp] theorem q_sfadd (i : Nat) (f : Fn) (e : E) : wpS Γ (.fadd i f e) (s :: ρ) P = wpE Γ e (s :: ρ) fun x ρ1 => (match ρ1[i]?, x with
    | some (.ins C fs), .val d => (Γ.cls.contains C && clsFd C f) = true ∧ ixOf f fs = none ∧ fs.length < 800 ∧ P.nx (ρ1.set i (.ins C (fs ++ [(f, .val d)])))
    | some (.ins C fs), .tmp ds => (Γ.cls.contains C && clsFd C f) = true ∧ ixOf f fs = none ∧ fs.length < 800 ∧ P.nx (ρ1.set i (.ins C (fs ++ [(f, .lst ds)])))
    | _, _ => False) := rfl
@[simp ↓, simp] theorem e_fld (i : Nat) (f : Fn) : evFld Γ (s :: ρ) i f = (match (s :: ρ)[i]? with
  | some (.ins C fs) => if (Γ.cls.contains C && clsFd C f) = true then (match ixOf f fs with
    | some k => (match fs[k]? with
      | some (_, .val d) => some (.val d)
      | some (_, .lst _) => some (.at_ (.fld i k))
      | none => none)
    | none => none) else none
  | _ => none) := rfl
@[simp ↓, simp] theorem e_pl1 (i : Nat) : plOf Γ (s :: ρ) (.var i) = lstPl (s :: ρ) (evVar (s :: ρ) i) := rfl
@[simp ↓, simp] theorem e_pl2 (i : Nat) (f : Fn) : plOf Γ (s :: ρ) (.fld i f) = lstPl (s :: ρ) (evFld Γ (s :: ρ) i f) := rfl
@[simp ↓, simp] theorem e_lpl (p : Pl) : lstPl (s :: ρ) (some (.at_ p)) = (match lstAt (s :: ρ) p with
    | some _ => some p
    | none => none) := rfl
@[simp ↓, simp] theorem e_lm (p : Pl) (m : LM) (evs : List Ev) : wpLm p m (s :: ρ) evs Q = (match lstAt (s :: ρ) p with
  | some ds => (match m, evs with
    | .append, [.val d] => ds.length < 100000 ∧ Q (.val .non) (setAt (s :: ρ) p (.lst (ds ++ [d])))
    | .pop, [.val (.int i)] => (0 ≤ i ∧ i < 100000) ∧ ∃ d, ds[i.toNat]? = some d ∧ Q (.val d) (setAt (s :: ρ) p (.lst (ds.eraseIdx i.toNat)))
    | .insert, [.val (.int i), .val d] => (0 ≤ i ∧ i ≤ ds.length ∧ ds.length < 100000) ∧ Q (.val .non) (setAt (s :: ρ) p (.lst (ds.take i.toNat ++ d :: ds.drop i.toNat)))
    | .extend, [.tmp es] => ds.length + es.length < 100000 ∧ Q (.val .non) (setAt (s :: ρ) p (.lst (ds ++ es)))
    | _, _ => False)
  | none => False) := rfl
theorem fr_rule {p : Pat} {it : It} {b : Ss} (its : Items) (ρ1 : Env) (hit : ∀ K : Items → Env → Prop, K its ρ1 → wpIt Γ it ρ K) (hc : (its.pls.all fun q => !(pvars p ++ asgSs b ++ grwSs b).contains (plSlot q.1)) = true)
    (hgo : forGo its.pls (frStep Γ p b P) its.ds ρ1 P.nx) : wpS Γ (.fr p it b) ρ P := hit _ ⟨hc, hgo⟩
theorem frStep_eq {p : Pat} {b : Ss} {d : D} {k : Env → Prop} : frStep Γ p b P d ρ k = wpPat Γ p d ρ fun ρ3 => wpSs Γ b ρ3 { nx := k, rt := P.rt, bk := P.nx, ct := k } := rfl
theorem whl_rule {t : E} {b : Ss} (W : Nat → Env → Prop) (m : Nat) (h0 : W m ρ) (hs : ∀ m ρ1, W m ρ1 → wpT Γ t ρ1 fun c ρ2 => if c = true then wpSs Γ b ρ2 { nx := fun ρ3 => ∃ m', m' < m ∧ W m' ρ3, rt := P.rt, bk := P.nx, ct := fun ρ3 => ∃ m', m' < m ∧ W m' ρ3 } else P.nx ρ2) : wpS Γ (.whl t b) ρ P := ⟨W, ⟨m, h0⟩, hs⟩
theorem q_swhl (t : E) (b : Ss) : wpS Γ (.whl t b) ρ P = ∃ W : Nat → Env → Prop, (∃ m, W m ρ) ∧ ∀ m ρ1, W m ρ1 → wpT Γ t ρ1 fun c ρ2 => if c = true then wpSs Γ b ρ2 { nx := fun ρ3 => ∃ m', m' < m ∧ W m' ρ3, rt := P.rt, bk := P.nx, ct := fun ρ3 => ∃ m', m' < m ∧ W m' ρ3 } else P.nx ρ2 := rfl
-- what is at hand
@[simp ↓, simp] theorem e_var (i : Nat) : evVar (s :: ρ) i = (match (s :: ρ)[i]? with
  | some (.fd (.val d)) => some (.val d)
  | some (.fd (.lst _)) => some (.at_ (.slot i))
  | some (.ins _ _) => some (.at_ (.slot i))
  | _ => none) := rfl
@[simp ↓, simp] theorem e_lst (i : Nat) : lstAt (s :: ρ) (.slot i) = (match (s :: ρ)[i]? with
    | some (.fd (.lst ds)) => some ds
    | _ => none) := rfl
@[simp ↓, simp] theorem e_lstF (i k : Nat) : lstAt (s :: ρ) (.fld i k) = (match (s :: ρ)[i]? with
    | some (.ins _ fs) => (match fs[k]? with
      | some (_, .lst ds) => some ds
      | _ => none)
    | _ => none) := rfl
@[simp ↓, simp] theorem e_dofV (d : D) : dof ρ (.val d) = some d := rfl
@[simp ↓, simp] theorem e_dofT (ds : List D) : dof ρ (.tmp ds) = some (.lst ds) := rfl
@[simp ↓, simp] theorem e_dofA (p : Pl) : dof (s :: ρ) (.at_ p) = (match lstAt (s :: ρ) p with
    | some ds => some (.lst ds)
    | none => none) := rfl
@[simp ↓, simp] theorem e_lofT (ds : List D) : lstOf ρ (.tmp ds) = some ds := rfl
@[simp ↓, simp] theorem e_lofA (p : Pl) : lstOf ρ (.at_ p) = lstAt ρ p := rfl
@[simp ↓, simp] theorem e_seqT (ds : List D) : seqOf ρ (.val (.tup ds)) = some ds := rfl
@[simp ↓, simp] theorem e_seqV (ds : List D) : seqOf ρ (.val (.lst ds)) = some ds := rfl
@[simp ↓, simp] theorem e_seqL (ds : List D) : seqOf ρ (.tmp ds) = some ds := rfl
@[simp ↓, simp] theorem e_seqA (p : Pl) : seqOf ρ (.at_ p) = lstAt ρ p := by
  unfold seqOf
  cases h : lstAt ρ p <;> simp [dof, h]
@[simp ↓, simp] theorem e_setS (i : Nat) (x : Fd) : setAt (s :: ρ) (.slot i) x = (s :: ρ).set i (.fd x) := rfl
@[simp ↓, simp] theorem e_setF (i k : Nat) (x : Fd) : setAt (s :: ρ) (.fld i k) x = (match (s :: ρ)[i]? with
    | some (.ins C fs) => (match fs[k]? with
      | some (f, _) => (s :: ρ).set i (.ins C (fs.set k (f, x)))
      | none => (s :: ρ))
    | _ => (s :: ρ)) := rfl
@[simp ↓, simp] theorem e_slV (d : D) : slOf ρ (.val d) = some (.fd (.val d)) := rfl
@[simp ↓, simp] theorem e_slT (ds : List D) : slOf ρ (.tmp ds) = some (.fd (.lst ds)) := rfl
@[simp ↓, simp] theorem e_slS (i : Nat) : slOf (s :: ρ) (.at_ (.slot i)) = (match (s :: ρ)[i]? with
    | some (.fd (.lst ds)) => some (.fd (.lst ds))
    | some (.ins C fs) => some (.ins C fs)
    | _ => none) := rfl
@[simp ↓, simp] theorem e_slF (i k : Nat) : slOf (s :: ρ) (.at_ (.fld i k)) = (match lstAt (s :: ρ) (.fld i k) with
    | some ds => some (.fd (.lst ds))
    | none => none) := rfl
@[simp ↓, simp] theorem e_sls0 : slsOf ρ [] = some [] := rfl
@[simp ↓, simp] theorem e_sls1 (e : Ev) (r : List Ev) : slsOf (s :: ρ) (e :: r) = (match slOf (s :: ρ) e, slsOf (s :: ρ) r with
    | some s, some ss => some (s :: ss)
    | _, _ => none) := rfl
@[simp ↓, simp] theorem e_call (p : Str × Spec) (evs : List Ev) : wpCall (some p) (s :: ρ) evs Q = (match slsOf (s :: ρ) evs with
    | some ss => (touch evs).Nodup ∧ p.2 ss fun r ss' => wbOk evs ss' ∧ Q (evOf r) (wb (s :: ρ) evs ss')
    | _ => False) := by
  unfold wpCall
  cases slsOf (s :: ρ) evs <;> rfl
@[simp ↓, simp] theorem e_t0 : touch [] = [] := rfl
@[simp ↓, simp] theorem e_tV (d : D) (r : List Ev) : touch (.val d :: r) = touch r := rfl
@[simp ↓, simp] theorem e_tT (ds : List D) (r : List Ev) : touch (.tmp ds :: r) = touch r := rfl
@[simp ↓, simp] theorem e_tS (i : Nat) (r : List Ev) : touch (.at_ (.slot i) :: r) = i :: touch r := rfl
@[simp ↓, simp] theorem e_tF (i k : Nat) (r : List Ev) : touch (.at_ (.fld i k) :: r) = i :: touch r := rfl
@[simp ↓, simp] theorem e_w0 (ss : List Sl) : wbOk [] ss = True := by cases ss <;> rfl
@[simp ↓, simp] theorem e_wV (d : D) (r : List Ev) (t : Sl) (ss : List Sl) : wbOk (.val d :: r) (t :: ss) = wbOk r ss := rfl
@[simp ↓, simp] theorem e_wT (ds : List D) (r : List Ev) (t : Sl) (ss : List Sl) : wbOk (.tmp ds :: r) (t :: ss) = wbOk r ss := rfl
@[simp ↓, simp] theorem e_wS (i : Nat) (r : List Ev) (t : Sl) (ss : List Sl) : wbOk (.at_ (.slot i) :: r) (t :: ss) = wbOk r ss := rfl
@[simp ↓, simp] theorem e_wF (i k : Nat) (r : List Ev) (ds : List D) (ss : List Sl) : wbOk (.at_ (.fld i k) :: r) (.fd (.lst ds) :: ss) = wbOk r ss := rfl
@[simp ↓, simp] theorem e_b0 (ss : List Sl) : wb ρ [] ss = ρ := by cases ss <;> rfl
@[simp ↓, simp] theorem e_bV (d : D) (r : List Ev) (t : Sl) (ss : List Sl) : wb ρ (.val d :: r) (t :: ss) = wb ρ r ss := by cases t <;> rfl
@[simp ↓, simp] theorem e_bT (ds : List D) (r : List Ev) (t : Sl) (ss : List Sl) : wb ρ (.tmp ds :: r) (t :: ss) = wb ρ r ss := by cases t <;> rfl
@[simp ↓, simp] theorem e_bS (i : Nat) (r : List Ev) (t : Sl) (ss : List Sl) : wb ρ (.at_ (.slot i) :: r) (t :: ss) = wb (ρ.set i t) r ss := rfl
@[simp ↓, simp] theorem e_bF (i k : Nat) (r : List Ev) (x : Fd) (ss : List Sl) : wb ρ (.at_ (.fld i k) :: r) (.fd x :: ss) = wb (setAt ρ (.fld i k) x) r ss := rfl
@[simp ↓, simp] theorem e_evV (d : D) : evOf (.val d) = .val d := rfl
@[simp ↓, simp] theorem e_evL (ds : List D) : evOf (.lst ds) = .tmp ds := rfl
@[simp ↓, simp] theorem e_h1 (d : D) : heldAt ρ (.val d) = [] := rfl
@[simp ↓, simp] theorem e_h2 (ds : List D) : heldAt ρ (.tmp ds) = [] := rfl
@[simp ↓, simp] theorem e_h3 (p : Pl) : heldAt (s :: ρ) (.at_ p) = (match lstAt (s :: ρ) p with
    | some ds => [(p, ds)]
    | none => []) := rfl
@[simp ↓, simp] theorem e_n1 : isNon (.val .non) = true := rfl
@[simp ↓, simp] theorem e_n2 (i : Int) : isNon (.val (.int i)) = false := rfl
@[simp ↓, simp] theorem e_n3 (ds : List D) : isNon (.val (.tup ds)) = false := rfl
@[simp ↓, simp] theorem e_n4 (ds : List D) : isNon (.tmp ds) = false := rfl
@[simp ↓, simp] theorem e_n5 (p : Pl) : isNon (.at_ p) = false := rfl
/-- operators -/
@[simp ↓, simp] theorem o_add (a b : Ev) : wpBin .add ρ a b Q = wpAdd ρ a b Q := rfl
@[simp ↓, simp] theorem o_mul (a b : Ev) : wpBin .mul ρ a b Q = wpMul ρ a b Q := rfl
@[simp ↓, simp] theorem o_sub (i j : Int) : wpBin .sub ρ (.val (.int i)) (.val (.int j)) Q = Q (.val (.int (i - j))) ρ := rfl
@[simp ↓, simp] theorem o_fdiv (i j : Int) : wpBin .fdiv ρ (.val (.int i)) (.val (.int j)) Q = (divOk j ∧ Q (.val (.int (i.fdiv j))) ρ) := rfl
@[simp ↓, simp] theorem o_mod (i j : Int) : wpBin .mod ρ (.val (.int i)) (.val (.int j)) Q = (j ≠ 0 ∧ Q (.val (.int (i.fmod j))) ρ) := rfl
@[simp ↓, simp] theorem o_pow (i j : Int) : wpBin .pow ρ (.val (.int i)) (.val (.int j)) Q = ((0 ≤ j ∧ j ≤ 1000 ∧ i.natAbs < 2 ^ 64) ∧ Q (.val (.int (i ^ j.toNat))) ρ) := rfl
@[simp ↓, simp] theorem o_addI (i j : Int) : wpAdd ρ (.val (.int i)) (.val (.int j)) Q = Q (.val (.int (i + j))) ρ := rfl
@[simp ↓, simp] theorem o_addT (x y : List D) : wpAdd ρ (.val (.tup x)) (.val (.tup y)) Q = (x.length + y.length ≤ 100000 ∧ Q (.val (.tup (x ++ y))) ρ) := rfl
@[simp ↓, simp] theorem o_addL (x y : List D) : wpAdd ρ (.tmp x) (.tmp y) Q = (x.length + y.length ≤ 100000 ∧ Q (.tmp (x ++ y)) ρ) := rfl
@[simp ↓, simp] theorem o_mulI (i j : Int) : wpMul ρ (.val (.int i)) (.val (.int j)) Q = (mulOk i j ∧ Q (.val (.int (i * j))) ρ) := rfl
variable {KB : Bool → Prop}
@[simp ↓, simp] theorem o_lt (i j : Int) : wpCmpI .lt (.val (.int i)) (.val (.int j)) KB = KB (decide (i < j)) := rfl
@[simp ↓, simp] theorem o_le (i j : Int) : wpCmpI .le (.val (.int i)) (.val (.int j)) KB = KB (decide (i ≤ j)) := rfl
@[simp ↓, simp] theorem o_gt (i j : Int) : wpCmpI .gt (.val (.int i)) (.val (.int j)) KB = KB (decide (j < i)) := rfl
@[simp ↓, simp] theorem o_ge (i j : Int) : wpCmpI .ge (.val (.int i)) (.val (.int j)) KB = KB (decide (j ≤ i)) := rfl
@[simp ↓, simp] theorem o_clt (a b : Ev) : wpCmp .lt ρ a b KB = wpCmpI .lt a b KB := rfl
@[simp ↓, simp] theorem o_cle (a b : Ev) : wpCmp .le ρ a b KB = wpCmpI .le a b KB := rfl
@[simp ↓, simp] theorem o_cgt (a b : Ev) : wpCmp .gt ρ a b KB = wpCmpI .gt a b KB := rfl
@[simp ↓, simp] theorem o_cge (a b : Ev) : wpCmp .ge ρ a b KB = wpCmpI .ge a b KB := rfl
@[simp ↓, simp] theorem o_eq (a b : Ev) : wpCmp .eq ρ a b KB = (match dof ρ a, dof ρ b with
    | some d, some e => okD d ∧ okD e ∧ KB (deq d e)
    | _, _ => False) := rfl
@[simp ↓, simp] theorem o_ne (a b : Ev) : wpCmp .ne ρ a b KB = (match dof ρ a, dof ρ b with
    | some d, some e => okD d ∧ okD e ∧ KB (!deq d e)
    | _, _ => False) := rfl
@[simp ↓, simp] theorem o_ix (a : Ev) (i : Int) : wpIx ρ a (.val (.int i)) Q = (match seqOf ρ a with
    | some ds => ∃ d, atI ds i = some d ∧ Q (.val d) ρ
    | none => False) := by
  unfold wpIx
  cases seqOf ρ a <;> rfl
@[simp ↓, simp] theorem o_isi (d : D) (t : Ty) : wpIsi (.val d) t KB = (isVal d = true ∧ KB (isiD d t)) := rfl
@[simp ↓, simp] theorem o_v1 (i : Int) : isVal (.int i) = true := rfl
@[simp ↓, simp] theorem o_v2 (ds : List D) : isVal (.tup ds) = true := rfl
@[simp ↓, simp] theorem o_v3 (b : Bool) : isVal (.bl b) = true := rfl
@[simp ↓, simp] theorem o_v4 : isVal .non = true := rfl
@[simp ↓, simp] theorem o_i1 (i : Int) : isiD (.int i) .int = true := rfl
@[simp ↓, simp] theorem o_i2 (i : Int) : isiD (.int i) .bool = false := rfl
@[simp ↓, simp] theorem o_i3 (i : Int) : isiD (.int i) .tuple = false := rfl
@[simp ↓, simp] theorem o_i4 (ds : List D) : isiD (.tup ds) .tuple = true := rfl
@[simp ↓, simp] theorem o_i5 (ds : List D) : isiD (.tup ds) .int = false := rfl
@[simp ↓, simp] theorem o_i6 (ds : List D) : isiD (.tup ds) .bool = false := rfl
@[simp ↓, simp] theorem f_len (e : Ev) : wpBif .len ρ [e] Q = (match seqOf ρ e with
    | some ds => Q (.val (.int ds.length)) ρ
    | none => False) := rfl
@[simp ↓, simp] theorem f_abs (i : Int) : wpBif .abs ρ [.val (.int i)] Q = Q (.val (.int i.natAbs)) ρ := rfl
@[simp ↓, simp] theorem f_min (i j : Int) : wpBif .min ρ [.val (.int i), .val (.int j)] Q = Q (.val (.int (min i j))) ρ := rfl
@[simp ↓, simp] theorem f_max (i j : Int) : wpBif .max ρ [.val (.int i), .val (.int j)] Q = Q (.val (.int (max i j))) ρ := rfl
@[simp ↓, simp] theorem f_tup (e : Ev) : wpBif .tuple ρ [e] Q = (match seqOf ρ e with
    | some ds => Q (.val (.tup ds)) ρ
    | none => False) := rfl
@[simp ↓, simp] theorem f_list (e : Ev) : wpBif .list ρ [e] Q = (match seqOf ρ e with
    | some ds => Q (.tmp ds) ρ
    | none => False) := rfl
@[simp ↓, simp] theorem f_all (e : Ev) : wpBif .all ρ [e] Q = (match lstOf ρ e with
    | some ds => ∃ bs : List Bool, ds = bs.map D.bl ∧ Q (.val (.bl (bs.all id))) ρ
    | none => False) := rfl
@[simp ↓, simp] theorem f_any (e : Ev) : wpBif .any ρ [e] Q = (match lstOf ρ e with
    | some ds => ∃ bs : List Bool, ds = bs.map D.bl ∧ Q (.val (.bl (bs.any id))) ρ
    | none => False) := rfl
@[simp ↓, simp] theorem f_int (b : Bool) : wpBif .int ρ [.val (.bl b)] Q = Q (.val (.int (if b then 1 else 0))) ρ := rfl
@[simp ↓, simp] theorem f_divmod (i j : Int) : wpBif .divmod ρ [.val (.int i), .val (.int j)] Q = ((0 < j ∧ j < 1073741824) ∧ Q (.val (.tup [.int (i / j), .int (i % j)])) ρ) := rfl
/-- the ends -/
@[simp ↓, simp] theorem r_nx (np : Nat) (ss : List Sl) (R : Fd → List Sl → Prop) : (rtS np ss R).nx ρ = R (.val .non) (ssOf ss ρ) := rfl
@[simp ↓, simp] theorem r_rtV (np : Nat) (ss : List Sl) (R : Fd → List Sl → Prop) (d : D) : (rtS np ss R).rt (.val d) ρ = R (.val d) (ssOf ss ρ) := rfl
@[simp ↓, simp] theorem r_rtT (np : Nat) (ss : List Sl) (R : Fd → List Sl → Prop) (ds : List D) : (rtS np ss R).rt (.tmp ds) ρ = R (.lst ds) (ssOf ss ρ) := rfl
@[simp ↓, simp] theorem r_rtA (np : Nat) (ss : List Sl) (R : Fd → List Sl → Prop) (i : Nat) : (rtS np ss R).rt (.at_ (.slot i)) (s :: ρ) = (if np ≤ i then (match (s :: ρ)[i]? with
    | some (.fd (.lst ds)) => R (.lst ds) (ssOf ss (s :: ρ))
    | _ => False) else False) := by
  show (match outOf np (s :: ρ) (.at_ (.slot i)) with
    | some r => R r (ssOf ss (s :: ρ))
    | none => False) = _
  by_cases h : np ≤ i
  · simp only [outOf, if_pos h]
    cases (s :: ρ)[i]? with
    | none => rfl
    | some y =>
      cases y with
      | non => rfl
      | ins C fs => rfl
      | fd x => cases x <;> rfl
  · simp only [outOf, if_neg h]
@[simp ↓, simp] theorem r_0 : ssOf [] ρ = [] := by cases ρ <;> rfl
@[simp ↓, simp] theorem r_V (d : D) (ss : List Sl) (t : Sl) : ssOf (.fd (.val d) :: ss) (t :: ρ) = .fd (.val d) :: ssOf ss ρ := rfl
@[simp ↓, simp] theorem r_L (ds : List D) (ss : List Sl) (t : Sl) : ssOf (.fd (.lst ds) :: ss) (t :: ρ) = t :: ssOf ss ρ := rfl
@[simp ↓, simp] theorem r_I (C : Cn) (fs : List (Fn × Fd)) (ss : List Sl) (t : Sl) : ssOf (.ins C fs :: ss) (t :: ρ) = t :: ssOf ss ρ := rfl
@[simp ↓, simp] theorem r_wi0 : wipeR ρ [] = ρ := rfl
@[simp ↓, simp] theorem r_wi (v : Nat) (vs : List Nat) : wipeR ρ (v :: vs) = (wipeR ρ vs).set v .non := rfl
@[simp ↓, simp] theorem r_ba0 (ρ' : Env) : backR ρ ρ' [] = ρ' := rfl
@[simp ↓, simp] theorem r_ba (ρ' : Env) (v : Nat) (vs : List Nat) : backR (s :: ρ) ρ' (v :: vs) = (backR (s :: ρ) ρ' vs).set v (((s :: ρ)[v]?).getD .non) := rfl
end
@[simp ↓, simp] theorem a_pv0 : pvars.pvarss .nil = [] := rfl
@[simp ↓, simp] theorem a_pv1 (p : Pat) (ps : Pats) : pvars.pvarss (.cons p ps) = pvars p ++ pvars.pvarss ps := rfl
@[simp ↓, simp] theorem a_atI {α : Type} (xs : List α) (i : Int) : atI xs i = (ixN xs.length i).bind fun j => xs[j]? := rfl
@[simp ↓, simp] theorem a_ixN (n : Nat) (i : Int) : ixN n i = if 0 ≤ i then (if i < n then some i.toNat else none) else if -(n : Int) ≤ i then some (i + n).toNat else none := rfl
@[simp] theorem deq_int (i j : Int) : deq (.int i) (.int j) = decide (i = j) := by
  show PyData.eqv (.int i) (.int j) = _
  simp [PyData.eqv]
  rfl
@[simp] theorem okD_int (i : Int) : okD (.int i) := by
  refine ⟨?_, rfl⟩
  show SeqAt.shaped (.int i) = true
  simp [SeqAt.shaped, PyData.canLay0, PyData.depth]
end DL

namespace DL
open PySem PySem.Spec PyProof.Rows L2
abbrev N_law : List Str := ["_law_script", "_law_k", "_law_pack_here", "_law_more_here", "_law_price", "_law_room", "_law_data", "_law_other", "_law_unlike_here", "_law_needs", "_law_others"]
abbrev p_law : List Str := ["_law_script"]
def c_law : Ss := (.cons (.fr (.nm 1) (.r3 (.cst (.int 0)) (.bif .max (.cons (.cst (.int 1)) (.cons (.bif .min (.cons (.bif .len (.cons (.var 0) .nil)) (.cons (.cst (.int 12)) .nil))) .nil))) (.cst (.int 4))) (.cons (.par [2, 3] (.cons (.call 8 (.cons (.var 0) (.cons (.var 1) .nil))) (.cons (.call 8 (.cons (.var 0) (.cons (.bin .add (.var 1) (.cst (.int 2))) .nil))) .nil))) (.cons (.par [4, 5] (.cons (.call 7 (.cons (.var 2) .nil)) (.cons (.call 7 (.cons (.var 3) .nil)) .nil))) (.cons (.asg (.tp (.cons (.nm 6) (.cons (.nm 7) .nil))) (.call 3 (.cons (.var 2) (.cons (.cst (.bl false)) .nil)))) (.cons (.asg (.nm 8) (.call 1 (.cons (.call 6 (.cons (.var 6) (.cons (.var 4) .nil))) (.cons (.call 6 (.cons (.var 7) (.cons (.var 4) .nil))) .nil)))) (.cons (.ifs (.not (.call 0 (.cons (.call 1 (.cons (.var 6) (.cons (.var 7) .nil))) (.cons (.var 8) .nil)))) (.cons (.ret (.cst (.bl false))) .nil) .nil) (.cons (.ifs (.not (.call 4 (.cons (.call 5 (.cons (.var 3) (.cons (.cst (.int 6)) .nil))) .nil))) (.cons (.ret (.cst (.bl false))) .nil) .nil) (.cons (.asg (.tp (.cons (.nm 9) (.cons (.nm 10) .nil))) (.call 3 (.cons (.var 3) (.cons (.cst (.bl true)) .nil)))) (.cons (.asg (.nm 8) (.call 1 (.cons (.call 2 (.cons (.var 9) (.cons (.var 5) .nil))) (.cons (.call 2 (.cons (.var 10) (.cons (.var 5) .nil))) .nil)))) (.cons (.ifs (.not (.call 0 (.cons (.call 1 (.cons (.var 9) (.cons (.var 10) .nil))) (.cons (.var 8) .nil)))) (.cons (.ret (.cst (.bl false))) .nil) .nil) .nil)))))))))) (.cons (.ret (.cst (.bl true))) .nil))
abbrev N_w_two : List Str := ["_law_pack_here", "_law_nought", "_law_pick", "_law_size", "_law_more_here", "_law_at", "_law_one", "_law_other", "_law_k"]
abbrev p_w_two : List Str := ["_law_pack_here", "_law_nought"]
def c_w_two : Ss := (.cons (.asg (.nm 2) (.call 2 (.cons (.var 0) (.cons (.cst (.int 4)) .nil)))) (.cons (.asg (.nm 3) (.bin .add (.cst (.int 1)) (.call 2 (.cons (.var 0) (.cons (.cst (.int 9)) .nil))))) (.cons (.ifs (.cmp .eq (.call 2 (.cons (.var 0) (.cons (.cst (.int 8)) .nil))) (.cst (.int 0))) (.cons (.asg (.nm 3) (.cst (.int 24))) .nil) .nil) (.cons (.asg (.nm 4) (.call 3 (.cons (.var 0) .nil))) (.cons (.asg (.nm 5) (.call 2 (.cons (.var 0) (.cons (.var 3) .nil)))) (.cons (.asg (.nm 6) (.call 0 (.cons (.var 0) (.cons (.var 3) (.cons (.var 1) .nil))))) (.cons (.asg (.nm 7) (.lc (.nm 8) (.r1 (.var 3)) .no (.call 1 (.cons (.ix (.var 6) (.var 8)) (.cons (.ix (.lst (.cons (.tup (.cons (.cst (.int 0)) (.cons (.cst (.int 1)) .nil))) (.cons (.var 4) .nil))) (.bif .int (.cons (.or (.cmp .eq (.var 8) (.var 5)) (.cmp .eq (.var 2) (.cst (.int 1)))) .nil))) .nil))) [8])) (.cons (.ifs (.cmp .gt (.var 2) (.cst (.int 1))) (.cons (.asg (.nm 7) (.bif .list (.cons (.call 0 (.cons (.var 0) (.cons (.var 3) (.cons (.var 1) .nil)))) .nil))) .nil) .nil) (.cons (.ret (.tup (.cons (.var 6) (.cons (.bif .tuple (.cons (.var 7) .nil)) .nil)))) .nil)))))))))
abbrev N_w_take : List Str := ["_law_pack_here", "_law_size", "_law_digit"]
abbrev p_w_take : List Str := ["_law_pack_here", "_law_size"]
def c_w_take : Ss := (.cons (.asg (.tp (.cons (.sub (.var 0) (.cst (.int 0))) (.cons (.nm 2) .nil))) (.bif .divmod (.cons (.ix (.var 0) (.cst (.int 0))) (.cons (.var 1) .nil)))) (.cons (.ret (.var 2)) .nil))
abbrev N_w_amount : List Str := ["_law_pack_here"]
abbrev p_w_amount : List Str := ["_law_pack_here"]
def c_w_amount : Ss := (.cons (.ret (.call 0 (.cons (.bin .mul (.ix (.lst (.cons (.cst (.int 0)) (.cons (.cst (.int 1)) (.cons (.cst (.int 2)) (.cons (.cst (.int 5)) (.cons (.cst (.int 9)) (.cons (.cst (.int 40)) .nil))))))) (.call 1 (.cons (.var 0) (.cons (.cst (.int 6)) .nil)))) (.bin .add (.cst (.int 1)) (.call 1 (.cons (.var 0) (.cons (.cst (.int 3)) .nil))))) (.cons (.bin .add (.cst (.int 1)) (.call 1 (.cons (.var 0) (.cons (.cst (.int 3)) .nil)))) .nil)))) .nil)
abbrev N_w_low : List Str := ["_law_top", "_law_bottom", "_law_one", "_law_other"]
abbrev p_w_low : List Str := ["_law_top", "_law_bottom"]
def c_w_low : Ss := (.cons (.par [2, 3] (.cons (.bif .abs (.cons (.var 0) .nil)) (.cons (.bif .abs (.cons (.var 1) .nil)) .nil))) (.cons (.whl (.cmp .ne (.var 3) (.cst (.int 0))) (.cons (.par [2, 3] (.cons (.var 3) (.cons (.bin .mod (.var 2) (.var 3)) .nil))) .nil)) (.cons (.ifs (.cmp .lt (.var 1) (.cst (.int 0))) (.cons (.asg (.nm 2) (.bin .sub (.cst (.int 0)) (.var 2))) .nil) .nil) (.cons (.ret (.tup (.cons (.bin .fdiv (.var 0) (.var 2)) (.cons (.bin .fdiv (.var 1) (.var 2)) .nil)))) .nil))))
abbrev N_w_some : List Str := ["_law_pack_here", "_law_size", "_law_nought", "_law_found", "_law_turn", "_law_one"]
abbrev p_w_some : List Str := ["_law_pack_here", "_law_size", "_law_nought"]
def c_w_some : Ss := (.cons (.asg (.nm 3) (.lst .nil)) (.cons (.fr (.nm 4) (.r1 (.var 1)) (.cons (.asg (.nm 5) (.call 1 (.cons (.var 0) (.cons (.cst (.int 9)) .nil)))) (.cons (.ifs (.var 2) (.cons (.asg (.nm 5) (.tup (.cons (.bif .abs (.cons (.ix (.var 5) (.cst (.int 0))) .nil)) (.cons (.ix (.var 5) (.cst (.int 1))) .nil)))) .nil) .nil) (.cons (.ifs (.and (.cmp .ne (.var 3) (.lst .nil)) (.cmp .eq (.call 0 (.cons (.var 0) (.cons (.cst (.int 4)) .nil))) (.cst (.int 0)))) (.cons (.asg (.nm 5) (.ix (.var 3) (.neg (.cst (.int 1))))) .nil) .nil) (.cons (.exp (.lm (.var 3) .append (.cons (.var 5) .nil))) .nil))))) (.cons (.ret (.bif .tuple (.cons (.var 3) .nil))) .nil)))
abbrev N_w_number : List Str := ["_law_pack_here", "_law_wide", "_law_bottom"]
abbrev p_w_number : List Str := ["_law_pack_here", "_law_wide"]
def c_w_number : Ss := (.cons (.asg (.nm 2) (.ix (.lst (.cons (.cst (.int 1)) (.cons (.cst (.int 1)) (.cons (.cst (.int 1)) (.cons (.cst (.int 2)) (.cons (.cst (.int 3)) (.cons (.cst (.int 5)) (.cons (.cst (.int 12)) (.cons (.cst (.int 1)) .nil))))))))) (.call 1 (.cons (.var 0) (.cons (.cst (.int 8)) .nil))))) (.cons (.ret (.call 0 (.cons (.bin .sub (.call 1 (.cons (.var 0) (.cons (.bin .add (.bin .mul (.cst (.int 2)) (.var 1)) (.cst (.int 1))) .nil))) (.var 1)) (.cons (.var 2) .nil)))) .nil))
abbrev N_w_more : List Str := ["_law_one", "_law_other"]
abbrev p_w_more : List Str := ["_law_one", "_law_other"]
def c_w_more : Ss := (.cons (.ret (.call 0 (.cons (.bin .add (.bin .mul (.ix (.var 0) (.cst (.int 0))) (.ix (.var 1) (.cst (.int 1)))) (.bin .mul (.ix (.var 1) (.cst (.int 0))) (.ix (.var 0) (.cst (.int 1))))) (.cons (.bin .mul (.ix (.var 0) (.cst (.int 1))) (.ix (.var 1) (.cst (.int 1)))) .nil)))) .nil)
abbrev N_w_apart : List Str := ["_law_one", "_law_other", "_law_some_here", "_law_two_here"]
abbrev p_w_apart : List Str := ["_law_one", "_law_other"]
def c_w_apart : Ss := (.cons (.ret (.bif .tuple (.cons (.lc (.tp (.cons (.nm 2) (.cons (.nm 3) .nil))) (.zip (.var 0) (.var 1)) .no (.call 0 (.cons (.var 3) (.cons (.var 2) .nil))) [2, 3]) .nil))) .nil)
abbrev N_w_less_by : List Str := ["_law_one", "_law_other"]
abbrev p_w_less_by : List Str := ["_law_one", "_law_other"]
def c_w_less_by : Ss := (.cons (.ret (.call 0 (.cons (.bin .sub (.bin .mul (.ix (.var 0) (.cst (.int 0))) (.ix (.var 1) (.cst (.int 1)))) (.bin .mul (.ix (.var 1) (.cst (.int 0))) (.ix (.var 0) (.cst (.int 1))))) (.cons (.bin .mul (.ix (.var 0) (.cst (.int 1))) (.ix (.var 1) (.cst (.int 1)))) .nil)))) .nil)
abbrev N_w_pack : List Str := ["_law_script", "_law_k", "_law_found", "_law_at"]
abbrev p_w_pack : List Str := ["_law_script", "_law_k"]
def c_w_pack : Ss := (.cons (.asg (.nm 2) (.cst (.int 0))) (.cons (.fr (.nm 3) (.seq (.lst (.cons (.bin .add (.var 1) (.cst (.int 1))) (.cons (.var 1) .nil)))) (.cons (.asg (.nm 2) (.bin .add (.bin .mul (.var 2) (.bin .pow (.cst (.int 10)) (.cst (.int 60)))) (.call 0 (.cons (.ix (.bin .add (.sl (.var 0) (.yes (.var 3)) (.yes (.bin .add (.var 3) (.cst (.int 1))))) (.lst (.cons (.bin .add (.bin .mul (.cst (.int 6841)) (.var 3)) (.cst (.int 37))) .nil))) (.cst (.int 0))) .nil)))) .nil)) (.cons (.ret (.lst (.cons (.var 2) .nil))) .nil)))
abbrev N_w_mixed : List Str := ["_law_cell"]
abbrev p_w_mixed : List Str := ["_law_cell"]
def c_w_mixed : Ss := (.cons (.ret (.bin .mod (.bin .mul (.var 0) (.cst (.int 693147180559945309417232121458176568075500134360255254120681))) (.bin .pow (.cst (.int 10)) (.cst (.int 60))))) .nil)
abbrev N_smoothed : List Str := ["data", "price"]
abbrev p_smoothed : List Str := ["data", "price"]
def c_smoothed : Ss := (.cons (.ret (.call 0 (.cons (.call 1 (.cons (.call 2 (.cons (.var 0) (.cons (.var 1) .nil))) .nil)) .nil))) .nil)
abbrev N_steps : List Str := ["row", "k"]
abbrev p_steps : List Str := ["row"]
def c_steps : Ss := (.cons (.exp (.call 1 (.cons (.var 0) .nil))) (.cons (.ret (.bif .tuple (.cons (.lc (.nm 1) (.r1 (.bin .sub (.bif .len (.cons (.var 0) .nil)) (.cst (.int 1)))) .no (.call 0 (.cons (.ix (.var 0) (.bin .add (.var 1) (.cst (.int 1)))) (.cons (.ix (.var 0) (.var 1)) .nil))) [1]) .nil))) .nil))
abbrev N_check_plain_row : List Str := ["thing"]
abbrev p_check_plain_row : List Str := ["thing"]
def c_check_plain_row : Ss := (.cons (.ifs (.not (.call 0 (.cons (.var 0) (.cons (.cst (.int 2)) (.cons (.glb 0) .nil))))) (.cons .raise .nil) .nil) .nil)
abbrev N_are_numbers : List Str := ["thing", "least", "most", "one"]
abbrev p_are_numbers : List Str := ["thing", "least", "most"]
def c_are_numbers : Ss := (.cons (.ret (.and (.isi (.var 0) .tuple) (.and (.chn .le .le (.var 1) (.bif .len (.cons (.var 0) .nil)) (.var 2)) (.bif .all (.cons (.lc (.nm 3) (.seq (.var 0)) .no (.call 0 (.cons (.var 3) .nil)) [3]) .nil))))) .nil)
abbrev N_is_number : List Str := ["thing", "part"]
abbrev p_is_number : List Str := ["thing"]
def c_is_number : Ss := (.cons (.ifs (.or (.not (.isi (.var 0) .tuple)) (.or (.cmp .ne (.bif .len (.cons (.var 0) .nil)) (.cst (.int 2))) (.not (.bif .all (.cons (.lc (.nm 1) (.seq (.var 0)) .no (.call 1 (.cons (.var 1) .nil)) [1]) .nil))))) (.cons (.ret (.cst (.bl false))) .nil) .nil) (.cons (.ret (.and (.cmp .ge (.ix (.var 0) (.cst (.int 1))) (.cst (.int 1))) (.cmp .eq (.call 0 (.cons (.ix (.var 0) (.cst (.int 0))) (.cons (.ix (.var 0) (.cst (.int 1))) .nil))) (.cst (.int 1))))) .nil))
abbrev N_common : List Str := ["one", "other"]
abbrev p_common : List Str := ["one", "other"]
def c_common : Ss := (.cons (.par [0, 1] (.cons (.bif .abs (.cons (.var 0) .nil)) (.cons (.bif .abs (.cons (.var 1) .nil)) .nil))) (.cons (.whl (.cmp .ne (.var 1) (.cst (.int 0))) (.cons (.par [0, 1] (.cons (.var 1) (.cons (.bin .mod (.var 0) (.var 1)) .nil))) .nil)) (.cons (.ret (.var 0)) .nil)))
abbrev N_is_whole : List Str := ["thing"]
abbrev p_is_whole : List Str := ["thing"]
def c_is_whole : Ss := (.cons (.ret (.and (.isi (.var 0) .int) (.not (.isi (.var 0) .bool)))) .nil)
abbrev N_taken : List Str := ["one", "other"]
abbrev p_taken : List Str := ["one", "other"]
def c_taken : Ss := (.cons (.ret (.call 0 (.cons (.bin .sub (.bin .mul (.ix (.var 0) (.cst (.int 0))) (.ix (.var 1) (.cst (.int 1)))) (.bin .mul (.ix (.var 1) (.cst (.int 0))) (.ix (.var 0) (.cst (.int 1))))) (.cons (.bin .mul (.ix (.var 0) (.cst (.int 1))) (.ix (.var 1) (.cst (.int 1)))) .nil)))) .nil)
abbrev N_number : List Str := ["top", "bottom", "both"]
abbrev p_number : List Str := ["top", "bottom"]
def c_number : Ss := (.cons (.ifs (.cmp .eq (.var 1) (.cst (.int 0))) (.cons .raise .nil) .nil) (.cons (.asg (.nm 2) (.call 0 (.cons (.var 0) (.cons (.var 1) .nil)))) (.cons (.ifs (.cmp .lt (.var 1) (.cst (.int 0))) (.cons (.asg (.nm 2) (.bin .sub (.cst (.int 0)) (.var 2))) .nil) .nil) (.cons (.ret (.tup (.cons (.bin .fdiv (.var 0) (.var 2)) (.cons (.bin .fdiv (.var 1) (.var 2)) .nil)))) .nil))))
abbrev N_cord : List Str := ["tube"]
abbrev p_cord : List Str := ["tube"]
def c_cord : Ss := (.cons (.exp (.call 1 (.cons (.var 0) .nil))) (.cons (.ret (.call 0 (.cons (.var 0) .nil))) .nil))
abbrev N_check_tied : List Str := ["thing"]
abbrev p_check_tied : List Str := ["thing"]
def c_check_tied : Ss := (.cons (.ifs (.not (.call 0 (.cons (.var 0) .nil))) (.cons .raise .nil) .nil) .nil)
abbrev N_is_tied : List Str := ["thing"]
abbrev p_is_tied : List Str := ["thing"]
def c_is_tied : Ss := (.cons (.ret (.and (.call 0 (.cons (.var 0) .nil)) (.and (.cmp .eq (.ix (.ix (.var 0) (.cst (.int 0))) (.cst (.int 0))) (.ix (.ix (.var 0) (.cst (.int 0))) (.cst (.int 1)))) (.cmp .eq (.ix (.ix (.var 0) (.neg (.cst (.int 1)))) (.cst (.int 0))) (.ix (.ix (.var 0) (.neg (.cst (.int 1)))) (.cst (.int 1))))))) .nil)
abbrev N_is_tube : List Str := ["thing", "pair"]
abbrev p_is_tube : List Str := ["thing"]
def c_is_tube : Ss := (.cons (.ifs (.or (.not (.isi (.var 0) .tuple)) (.not (.chn .le .le (.cst (.int 2)) (.bif .len (.cons (.var 0) .nil)) (.glb 0)))) (.cons (.ret (.cst (.bl false))) .nil) .nil) (.cons (.ret (.bif .all (.cons (.lc (.nm 1) (.seq (.var 0)) .no (.call 0 (.cons (.var 1) .nil)) [1]) .nil))) .nil))
abbrev N_is_pair : List Str := ["thing"]
abbrev p_is_pair : List Str := ["thing"]
def c_is_pair : Ss := (.cons (.ifs (.or (.not (.isi (.var 0) .tuple)) (.or (.cmp .ne (.bif .len (.cons (.var 0) .nil)) (.cst (.int 2))) (.or (.not (.call 1 (.cons (.ix (.var 0) (.cst (.int 0))) .nil))) (.not (.call 1 (.cons (.ix (.var 0) (.cst (.int 1))) .nil)))))) (.cons (.ret (.cst (.bl false))) .nil) .nil) (.cons (.ret (.not (.call 0 (.cons (.ix (.var 0) (.cst (.int 1))) (.cons (.ix (.var 0) (.cst (.int 0))) .nil))))) .nil))
abbrev N_is_less : List Str := ["one", "other"]
abbrev p_is_less : List Str := ["one", "other"]
def c_is_less : Ss := (.cons (.ret (.cmp .lt (.bin .mul (.ix (.var 0) (.cst (.int 0))) (.ix (.var 1) (.cst (.int 1)))) (.bin .mul (.ix (.var 1) (.cst (.int 0))) (.ix (.var 0) (.cst (.int 1)))))) .nil)
abbrev N_drawn : List Str := ["places", "found", "at", "slope", "place", "height"]
abbrev p_drawn : List Str := ["places"]
def c_drawn : Ss := (.cons (.asg (.nm 1) (.lst (.cons (.ix (.ix (.var 0) (.cst (.int 0))) (.cst (.int 0))) .nil))) (.cons (.whl (.cmp .lt (.bif .len (.cons (.var 1) .nil)) (.bif .len (.cons (.var 0) .nil))) (.cons (.asg (.nm 2) (.bin .sub (.bif .len (.cons (.var 1) .nil)) (.cst (.int 1)))) (.cons (.asg (.tp (.cons (.nm 3) (.cons (.nm 4) (.cons (.nm 5) .nil)))) (.call 1 (.cons (.var 0) (.cons (.var 2) (.cons (.ix (.var 1) (.var 2)) .nil))))) (.cons (.asg (.nm 1) (.call 0 (.cons (.var 1) (.cons (.var 3) (.cons (.bin .sub (.var 4) (.var 2)) .nil))))) .nil)))) (.cons (.ret (.bif .tuple (.cons (.var 1) .nil))) .nil)))
abbrev N_touch_behind : List Str := ["tube", "at", "height", "reach", "place", "found"]
abbrev p_touch_behind : List Str := ["tube", "at", "height"]
def c_touch_behind : Ss := (.cons (.asg (.nm 3) (.new 0 (.cons (.var 1) (.cons (.var 2) .nil)))) (.cons (.fr (.nm 4) (.r2 (.bin .add (.var 1) (.cst (.int 1))) (.bif .len (.cons (.var 0) .nil))) (.cons (.asg (.nm 5) (.meth 0 3 (.cons (.var 4) (.cons (.ix (.var 0) (.var 4)) .nil)))) (.cons (.ifs (.isN false (.var 5)) (.cons (.ret (.var 5)) .nil) .nil) .nil))) (.cons (.ret (.fld 3 .most)) .nil)))
abbrev N_Reach___init__ : List Str := ["self", "begin", "height"]
abbrev p_Reach___init__ : List Str := ["self", "begin", "height"]
def c_Reach___init__ : Ss := (.cons (.fadd 0 .begin_ (.var 1)) (.cons (.fadd 0 .height (.var 2)) (.cons (.fadd 0 .most (.cst .non)) (.cons (.fadd 0 .least (.cst .non)) .nil))))
abbrev N_Reach_crossed : List Str := ["self", "low", "high"]
abbrev p_Reach_crossed : List Str := ["self", "low", "high"]
def c_Reach_crossed : Ss := (.cons (.ifs (.and (.isN false (.fld 0 .most)) (.call 0 (.cons (.ix (.fld 0 .most) (.cst (.int 0))) (.cons (.var 1) .nil)))) (.cons (.ret (.fld 0 .most)) .nil) .nil) (.cons (.ifs (.and (.isN false (.fld 0 .least)) (.call 0 (.cons (.var 2) (.cons (.ix (.fld 0 .least) (.cst (.int 0))) .nil)))) (.cons (.ret (.fld 0 .least)) .nil) .nil) (.cons (.ret (.cst .non)) .nil)))
abbrev N_Reach_take : List Str := ["self", "place", "bounds", "low", "high", "found"]
abbrev p_Reach_take : List Str := ["self", "place", "bounds"]
def c_Reach_take : Ss := (.cons (.asg (.nm 3) (.call 1 (.cons (.tup (.cons (.fld 0 .height) (.cons (.bin .sub (.var 1) (.fld 0 .begin_)) .nil))) (.cons (.ix (.var 2) (.cst (.int 0))) .nil)))) (.cons (.asg (.nm 4) (.call 1 (.cons (.tup (.cons (.fld 0 .height) (.cons (.bin .sub (.var 1) (.fld 0 .begin_)) .nil))) (.cons (.ix (.var 2) (.cst (.int 1))) .nil)))) (.cons (.asg (.nm 5) (.meth 0 0 (.cons (.var 3) (.cons (.var 4) .nil)))) (.cons (.ifs (.isN true (.var 5)) (.cons (.ifs (.or (.isN true (.fld 0 .most)) (.not (.call 0 (.cons (.ix (.fld 0 .most) (.cst (.int 0))) (.cons (.var 4) .nil))))) (.cons (.fset 0 .most (.tup (.cons (.var 4) (.cons (.var 1) (.cons (.ix (.var 2) (.cst (.int 1))) .nil))))) .nil) .nil) (.cons (.ifs (.or (.isN true (.fld 0 .least)) (.not (.call 0 (.cons (.var 3) (.cons (.ix (.fld 0 .least) (.cst (.int 0))) .nil))))) (.cons (.fset 0 .least (.tup (.cons (.var 3) (.cons (.var 1) (.cons (.ix (.var 2) (.cst (.int 0))) .nil))))) .nil) .nil) .nil)) .nil) (.cons (.ret (.var 5)) .nil)))))
abbrev N_slope_to : List Str := ["row", "height", "end", "far"]
abbrev p_slope_to : List Str := ["row", "height"]
def c_slope_to : Ss := (.cons (.asg (.tp (.cons (.nm 2) (.cons (.nm 3) .nil))) (.var 0)) (.cons (.ret (.call 0 (.cons (.call 2 (.cons (.var 1) (.cons (.var 2) .nil))) (.cons (.call 1 (.cons (.var 3) .nil)) .nil)))) .nil))
abbrev N_parted : List Str := ["one", "other"]
abbrev p_parted : List Str := ["one", "other"]
def c_parted : Ss := (.cons (.ret (.call 0 (.cons (.bin .mul (.ix (.var 0) (.cst (.int 0))) (.ix (.var 1) (.cst (.int 1)))) (.cons (.bin .mul (.ix (.var 0) (.cst (.int 1))) (.ix (.var 1) (.cst (.int 0)))) .nil)))) .nil)
abbrev N_whole : List Str := ["top"]
abbrev p_whole : List Str := ["top"]
def c_whole : Ss := (.cons (.ret (.tup (.cons (.var 0) (.cons (.cst (.int 1)) .nil)))) .nil)
abbrev N_drawn_to : List Str := ["row", "slope", "many", "found", "turn"]
abbrev p_drawn_to : List Str := ["row", "slope", "many"]
def c_drawn_to : Ss := (.cons (.asg (.nm 3) (.bif .list (.cons (.var 0) .nil))) (.cons (.fr (.nm 4) (.r1 (.var 2)) (.cons (.exp (.lm (.var 3) .append (.cons (.call 0 (.cons (.ix (.var 3) (.neg (.cst (.int 1)))) (.cons (.var 1) .nil))) .nil))) .nil)) (.cons (.ret (.var 3)) .nil)))
abbrev N_added : List Str := ["one", "other"]
abbrev p_added : List Str := ["one", "other"]
def c_added : Ss := (.cons (.ret (.call 0 (.cons (.bin .add (.bin .mul (.ix (.var 0) (.cst (.int 0))) (.ix (.var 1) (.cst (.int 1)))) (.bin .mul (.ix (.var 1) (.cst (.int 0))) (.ix (.var 0) (.cst (.int 1))))) (.cons (.bin .mul (.ix (.var 0) (.cst (.int 1))) (.ix (.var 1) (.cst (.int 1)))) .nil)))) .nil)
abbrev N_tube_of : List Str := ["data", "price", "found", "here", "one"]
abbrev p_tube_of : List Str := ["data", "price"]
def c_tube_of : Ss := (.cons (.exp (.call 3 (.cons (.var 0) .nil))) (.cons (.exp (.call 2 (.cons (.var 1) .nil))) (.cons (.asg (.nm 2) (.lst (.cons (.tup (.cons (.glb 0) (.cons (.glb 0) .nil))) .nil))) (.cons (.asg (.nm 3) (.glb 0)) (.cons (.fr (.nm 4) (.seq (.var 0)) (.cons (.asg (.nm 3) (.call 0 (.cons (.var 3) (.cons (.var 4) .nil)))) (.cons (.exp (.lm (.var 2) .append (.cons (.tup (.cons (.call 1 (.cons (.var 3) (.cons (.var 1) .nil))) (.cons (.call 0 (.cons (.var 3) (.cons (.var 1) .nil))) .nil))) .nil))) .nil))) (.cons (.asg (.sub (.var 2) (.neg (.cst (.int 1)))) (.tup (.cons (.var 3) (.cons (.var 3) .nil)))) (.cons (.ret (.bif .tuple (.cons (.var 2) .nil))) .nil)))))))
abbrev N_check_data : List Str := ["thing"]
abbrev p_check_data : List Str := ["thing"]
def c_check_data : Ss := (.cons (.ifs (.not (.call 0 (.cons (.var 0) (.cons (.cst (.int 1)) (.cons (.bin .sub (.glb 0) (.cst (.int 1))) .nil))))) (.cons .raise .nil) .nil) .nil)
abbrev N_check_price : List Str := ["thing"]
abbrev p_check_price : List Str := ["thing"]
def c_check_price : Ss := (.cons (.ifs (.not (.call 0 (.cons (.var 0) .nil))) (.cons .raise .nil) .nil) .nil)
abbrev N_is_price : List Str := ["thing"]
abbrev p_is_price : List Str := ["thing"]
def c_is_price : Ss := (.cons (.ret (.and (.call 0 (.cons (.var 0) .nil)) (.not (.call 1 (.cons (.var 0) (.cons (.glb 0) .nil)))))) .nil)
abbrev N_w_levelled_right : List Str := ["_law_ahead", "_law_behind", "_law_found"]
abbrev p_w_levelled_right : List Str := ["_law_ahead", "_law_behind"]
def c_w_levelled_right : Ss := (.cons (.ifs (.or (.cmp .ne (.bif .len (.cons (.var 0) .nil)) (.bif .len (.cons (.var 1) .nil))) (.not (.call 2 (.cons (.var 0) (.cons (.var 1) .nil))))) (.cons (.ret (.cst (.bl false))) .nil) .nil) (.cons (.asg (.nm 2) (.call 1 (.cons (.var 0) (.cons (.var 1) .nil)))) (.cons (.ret (.and (.isN false (.var 2)) (.cmp .eq (.call 0 (.cons (.var 0) (.cons (.var 2) .nil))) (.var 1)))) .nil)))
abbrev N_between : List Str := ["other", "some", "levels"]
abbrev p_between : List Str := ["other", "some"]
def c_between : Ss := (.cons (.exp (.call 0 (.cons (.var 0) .nil))) (.cons (.exp (.call 0 (.cons (.var 1) .nil))) (.cons (.ifs (.cmp .ne (.bif .len (.cons (.var 0) .nil)) (.bif .len (.cons (.var 1) .nil))) (.cons .raise .nil) .nil) (.cons (.asg (.nm 2) (.new 0 (.cons (.var 0) (.cons (.var 1) .nil)))) (.cons (.ifs (.not (.meth 1 2 .nil)) (.cons (.ret (.cst .non)) .nil) .nil) (.cons (.exp (.meth 0 2 .nil)) (.cons (.ret (.bif .tuple (.cons (.fld 2 .made) .nil))) .nil)))))))
abbrev N_check_steps : List Str := ["thing"]
abbrev p_check_steps : List Str := ["thing"]
def c_check_steps : Ss := (.cons (.ifs (.not (.call 0 (.cons (.var 0) (.cons (.cst (.int 1)) (.cons (.glb 0) .nil))))) (.cons .raise .nil) .nil) .nil)
abbrev N_Levels___init__ : List Str := ["self", "some", "others"]
abbrev p_Levels___init__ : List Str := ["self", "some", "others"]
def c_Levels___init__ : Ss := (.cons (.fadd 0 .now (.bif .list (.cons (.var 1) .nil))) (.cons (.fadd 0 .goal (.bif .list (.cons (.var 2) .nil))) (.cons (.fadd 0 .made (.lst .nil)) .nil)))
abbrev N_Levels_give : List Str := ["self", "giver", "taker", "amount"]
abbrev p_Levels_give : List Str := ["self", "giver", "taker", "amount"]
def c_Levels_give : Ss := (.cons (.exp (.lm (.fld 0 .made) .append (.cons (.tup (.cons (.var 1) (.cons (.var 2) (.cons (.var 3) .nil)))) .nil))) (.cons (.asg (.sub (.fld 0 .now) (.var 1)) (.call 1 (.cons (.ix (.fld 0 .now) (.var 1)) (.cons (.var 3) .nil)))) (.cons (.asg (.sub (.fld 0 .now) (.var 2)) (.call 0 (.cons (.ix (.fld 0 .now) (.var 2)) (.cons (.var 3) .nil)))) .nil)))
abbrev N_Levels_next_pair : List Str := ["self", "order", "wanted", "giver", "place"]
abbrev p_Levels_next_pair : List Str := ["self", "order", "wanted"]
def c_Levels_next_pair : Ss := (.cons (.asg (.nm 3) (.cst .non)) (.cons (.fr (.nm 4) (.r1 (.bif .len (.cons (.var 1) .nil))) (.cons (.ifs (.call 0 (.cons (.ix (.fld 0 .now) (.ix (.var 1) (.var 4))) (.cons (.ix (.var 2) (.var 4)) .nil))) (.cons (.ret (.tup (.cons (.var 3) (.cons (.var 4) .nil)))) .nil) .nil) (.cons (.ifs (.call 0 (.cons (.ix (.var 2) (.var 4)) (.cons (.ix (.fld 0 .now) (.ix (.var 1) (.var 4))) .nil))) (.cons (.asg (.nm 3) (.var 4)) .nil) .nil) .nil))) (.cons (.ret (.tup (.cons (.var 3) (.cons (.cst .non) .nil)))) .nil)))
abbrev N_Levels_evened : List Str := ["self", "order", "wanted", "giver", "taker", "more", "less", "number"]
abbrev p_Levels_evened : List Str := ["self"]
def c_Levels_evened : Ss := (.cons (.asg (.nm 1) (.call 2 (.cons (.fld 0 .now) .nil))) (.cons (.asg (.nm 2) (.lc (.nm 7) (.seq (.call 2 (.cons (.fld 0 .goal) .nil))) .no (.ix (.fld 0 .goal) (.var 7)) [7])) (.cons (.asg (.tp (.cons (.nm 3) (.cons (.nm 4) .nil))) (.meth 0 0 (.cons (.var 1) (.cons (.var 2) .nil)))) (.cons (.whl (.and (.isN false (.var 3)) (.isN false (.var 4))) (.cons (.asg (.nm 5) (.call 1 (.cons (.ix (.fld 0 .now) (.ix (.var 1) (.var 3))) (.cons (.ix (.var 2) (.var 3)) .nil)))) (.cons (.asg (.nm 6) (.call 1 (.cons (.ix (.var 2) (.var 4)) (.cons (.ix (.fld 0 .now) (.ix (.var 1) (.var 4))) .nil)))) (.cons (.ifs (.call 0 (.cons (.var 6) (.cons (.var 5) .nil))) (.cons (.asg (.nm 5) (.var 6)) .nil) .nil) (.cons (.exp (.meth 1 0 (.cons (.ix (.var 1) (.var 3)) (.cons (.ix (.var 1) (.var 4)) (.cons (.var 5) .nil))))) (.cons (.asg (.tp (.cons (.nm 3) (.cons (.nm 4) .nil))) (.meth 0 0 (.cons (.var 1) (.cons (.var 2) .nil)))) .nil)))))) (.cons (.ret (.and (.isN true (.var 3)) (.isN true (.var 4)))) .nil)))))
abbrev N_falling : List Str := ["some", "found", "number", "place"]
abbrev p_falling : List Str := ["some"]
def c_falling : Ss := (.cons (.asg (.nm 1) (.lst .nil)) (.cons (.fr (.nm 2) (.r1 (.bif .len (.cons (.var 0) .nil))) (.cons (.asg (.nm 3) (.cst (.int 0))) (.cons (.whl (.and (.cmp .lt (.var 3) (.bif .len (.cons (.var 1) .nil))) (.not (.call 0 (.cons (.ix (.var 0) (.ix (.var 1) (.var 3))) (.cons (.ix (.var 0) (.var 2)) .nil))))) (.cons (.asg (.nm 3) (.bin .add (.var 3) (.cst (.int 1)))) .nil)) (.cons (.exp (.lm (.var 1) .insert (.cons (.var 3) (.cons (.var 2) .nil)))) .nil)))) (.cons (.ret (.var 1)) .nil)))
abbrev N_Levels_put_right : List Str := ["self", "place", "other"]
abbrev p_Levels_put_right : List Str := ["self"]
def c_Levels_put_right : Ss := (.cons (.fr (.nm 1) (.r1 (.bif .len (.cons (.fld 0 .now) .nil))) (.cons (.ifs (.cmp .ne (.ix (.fld 0 .now) (.var 1)) (.ix (.fld 0 .goal) (.var 1))) (.cons (.asg (.nm 2) (.bin .add (.var 1) (.cst (.int 1)))) (.cons (.whl (.cmp .ne (.ix (.fld 0 .now) (.var 2)) (.ix (.fld 0 .goal) (.var 1))) (.cons (.asg (.nm 2) (.bin .add (.var 2) (.cst (.int 1)))) .nil)) (.cons (.ifs (.call 0 (.cons (.ix (.fld 0 .now) (.var 1)) (.cons (.ix (.fld 0 .now) (.var 2)) .nil))) (.cons (.exp (.meth 0 0 (.cons (.var 2) (.cons (.var 1) (.cons (.call 1 (.cons (.ix (.fld 0 .now) (.var 2)) (.cons (.ix (.fld 0 .now) (.var 1)) .nil))) .nil))))) .nil) (.cons (.exp (.meth 0 0 (.cons (.var 1) (.cons (.var 2) (.cons (.call 1 (.cons (.ix (.fld 0 .now) (.var 1)) (.cons (.ix (.fld 0 .now) (.var 2)) .nil))) .nil))))) .nil)) .nil))) .nil) .nil)) .nil)
abbrev N_w_led : List Str := ["_law_one", "_law_other", "_law_mine", "_law_theirs", "_law_pairs", "_law_high", "_law_less"]
abbrev p_w_led : List Str := ["_law_one", "_law_other"]
def c_w_led : Ss := (.cons (.asg (.tp (.cons (.nm 2) (.cons (.nm 3) .nil))) (.tup (.cons (.tup (.cons (.cst (.int 0)) (.cons (.cst (.int 1)) .nil))) (.cons (.tup (.cons (.cst (.int 0)) (.cons (.cst (.int 1)) .nil))) .nil)))) (.cons (.asg (.nm 4) (.lzip (.call 2 (.cons (.var 0) .nil)) (.call 2 (.cons (.var 1) .nil)))) (.cons (.fr (.tp (.cons (.nm 5) (.cons (.nm 6) .nil))) (.seq (.var 4)) (.cons (.par [2, 3] (.cons (.call 1 (.cons (.var 2) (.cons (.var 5) .nil))) (.cons (.call 1 (.cons (.var 3) (.cons (.var 6) .nil))) .nil))) (.cons (.ifs (.call 0 (.cons (.var 2) (.cons (.var 3) .nil))) (.cons (.ret (.cst (.bl false))) .nil) .nil) .nil))) (.cons (.ret (.cmp .eq (.var 2) (.var 3))) .nil))))
abbrev N_w_under : List Str := ["_law_one", "_law_other"]
abbrev p_w_under : List Str := ["_law_one", "_law_other"]
def c_w_under : Ss := (.cons (.ret (.cmp .lt (.bin .mul (.ix (.var 0) (.cst (.int 0))) (.ix (.var 1) (.cst (.int 1)))) (.bin .mul (.ix (.var 1) (.cst (.int 0))) (.ix (.var 0) (.cst (.int 1)))))) .nil)
abbrev N_w_falling : List Str := ["_law_some_here", "_law_found", "_law_one", "_law_place", "_law_other"]
abbrev p_w_falling : List Str := ["_law_some_here"]
def c_w_falling : Ss := (.cons (.asg (.nm 1) (.lst .nil)) (.cons (.fr (.nm 2) (.seq (.var 0)) (.cons (.asg (.nm 3) (.bif .len (.cons (.lc (.nm 4) (.seq (.var 1)) (.yes (.not (.call 0 (.cons (.var 4) (.cons (.var 2) .nil))))) (.var 4) [4]) .nil))) (.cons (.exp (.lm (.var 1) .insert (.cons (.var 3) (.cons (.var 2) .nil)))) .nil))) (.cons (.ret (.var 1)) .nil)))
abbrev N_levelled : List Str := ["some", "levellings", "found", "number", "levelling", "giver", "taker", "amount"]
abbrev p_levelled : List Str := ["some", "levellings"]
def c_levelled : Ss := (.cons (.exp (.call 3 (.cons (.var 0) .nil))) (.cons (.ifs (.not (.isi (.var 1) .tuple)) (.cons .raise .nil) .nil) (.cons (.asg (.nm 2) (.bif .list (.cons (.var 0) .nil))) (.cons (.fr (.tp (.cons (.nm 3) (.cons (.nm 4) .nil))) (.enu (.var 1)) (.cons (.ifs (.not (.call 2 (.cons (.var 2) (.cons (.var 4) .nil)))) (.cons .raise .nil) .nil) (.cons (.asg (.tp (.cons (.nm 5) (.cons (.nm 6) (.cons (.nm 7) .nil)))) (.var 4)) (.cons (.asg (.sub (.var 2) (.var 5)) (.call 1 (.cons (.ix (.var 2) (.var 5)) (.cons (.var 7) .nil)))) (.cons (.asg (.sub (.var 2) (.var 6)) (.call 0 (.cons (.ix (.var 2) (.var 6)) (.cons (.var 7) .nil)))) .nil))))) (.cons (.ret (.bif .tuple (.cons (.var 2) .nil))) .nil)))))
abbrev N_is_levelling : List Str := ["some", "thing"]
abbrev p_is_levelling : List Str := ["some", "thing"]
def c_is_levelling : Ss := (.cons (.ifs (.or (.not (.isi (.var 1) .tuple)) (.or (.cmp .ne (.bif .len (.cons (.var 1) .nil)) (.cst (.int 3))) (.not (.call 3 (.cons (.ix (.var 1) (.cst (.int 2))) .nil))))) (.cons (.ret (.cst (.bl false))) .nil) .nil) (.cons (.ifs (.or (.not (.call 2 (.cons (.ix (.var 1) (.cst (.int 0))) (.cons (.bif .len (.cons (.var 0) .nil)) .nil)))) (.or (.not (.call 2 (.cons (.ix (.var 1) (.cst (.int 1))) (.cons (.bif .len (.cons (.var 0) .nil)) .nil)))) (.not (.call 0 (.cons (.glb 0) (.cons (.ix (.var 1) (.cst (.int 2))) .nil)))))) (.cons (.ret (.cst (.bl false))) .nil) .nil) (.cons (.ret (.not (.call 0 (.cons (.call 1 (.cons (.ix (.var 0) (.ix (.var 1) (.cst (.int 0)))) (.cons (.ix (.var 0) (.ix (.var 1) (.cst (.int 1)))) .nil))) (.cons (.ix (.var 1) (.cst (.int 2))) .nil))))) .nil)))
abbrev N_is_place : List Str := ["thing", "many"]
abbrev p_is_place : List Str := ["thing", "many"]
def c_is_place : Ss := (.cons (.ret (.and (.isi (.var 0) .int) (.and (.not (.isi (.var 0) .bool)) (.chn .le .lt (.cst (.int 0)) (.var 0) (.var 1))))) .nil)
abbrev N_w_works_right : List Str := ["_law_some_here", "_law_ahead", "_law_behind", "_law_great", "_law_arrival", "_law_due", "_law_one", "_law_other", "_law_first", "_law_second", "_law_third", "_law_k", "_law_works", "_law_most", "_law_less", "_law_work"]
abbrev p_w_works_right : List Str := ["_law_some_here"]
def c_w_works_right : Ss := (.cons (.par [1, 2, 3] (.cons (.lst .nil) (.cons (.lst .nil) (.cons (.lst .nil) .nil)))) (.cons (.fr (.tp (.cons (.nm 4) (.cons (.nm 5) (.cons (.nm 6) (.cons (.nm 7) .nil))))) (.seq (.var 0)) (.cons (.asg (.nm 13) (.var 6)) (.cons (.ifs (.call 0 (.cons (.var 6) (.cons (.var 7) .nil))) (.cons (.asg (.nm 13) (.var 7)) .nil) .nil) (.cons (.exp (.lm (.var 1) .append (.cons (.tup (.cons (.var 4) (.cons (.var 5) (.cons (.var 6) .nil)))) .nil))) (.cons (.exp (.lm (.var 2) .append (.cons (.tup (.cons (.var 4) (.cons (.var 5) (.cons (.var 7) .nil)))) .nil))) (.cons (.exp (.lm (.var 3) .append (.cons (.tup (.cons (.var 4) (.cons (.var 5) (.cons (.var 13) .nil)))) .nil))) .nil)))))) (.cons (.par [8, 9] (.cons (.call 3 (.cons (.bif .tuple (.cons (.var 1) .nil)) .nil)) (.cons (.call 3 (.cons (.bif .tuple (.cons (.var 2) .nil)) .nil)) .nil))) (.cons (.asg (.nm 10) (.call 3 (.cons (.bif .tuple (.cons (.var 3) .nil)) .nil))) (.cons (.ifs (.or (.cmp .ne (.bif .len (.cons (.var 8) .nil)) (.bif .len (.cons (.var 10) .nil))) (.cmp .ne (.bif .len (.cons (.var 9) .nil)) (.bif .len (.cons (.var 10) .nil)))) (.cons (.ret (.cst (.bl false))) .nil) .nil) (.cons (.fr (.nm 11) (.r1 (.bif .len (.cons (.var 10) .nil))) (.cons (.ifs (.bif .any (.cons (.lc (.nm 14) (.seq (.lst (.cons (.ix (.var 8) (.var 11)) (.cons (.ix (.var 9) (.var 11)) .nil)))) .no (.call 0 (.cons (.ix (.var 10) (.var 11)) (.cons (.var 14) .nil))) [14]) .nil)) (.cons (.ret (.cst (.bl false))) .nil) .nil) .nil)) (.cons (.ifs (.cmp .ne (.call 2 (.cons (.var 10) .nil)) (.call 2 (.cons (.lc (.tp (.cons (.nm 4) (.cons (.nm 5) (.cons (.nm 15) .nil)))) (.seq (.var 3)) .no (.var 15) [4, 5, 15]) .nil))) (.cons (.ret (.cst (.bl false))) .nil) .nil) (.cons (.asg (.nm 12) (.call 1 (.cons (.lc (.nm 6) (.seq (.var 0)) .no (.ix (.var 6) (.cst (.int 2))) [6]) (.cons (.lc (.nm 6) (.seq (.var 0)) .no (.ix (.var 6) (.cst (.int 3))) [6]) .nil)))) (.cons (.ret (.not (.call 0 (.cons (.var 12) (.cons (.call 1 (.cons (.var 8) (.cons (.var 9) .nil))) .nil))))) .nil)))))))))
abbrev N_speeds : List Str := ["jobs"]
abbrev p_speeds : List Str := ["jobs"]
def c_speeds : Ss := (.cons (.ret (.call 0 (.cons (.call 1 (.cons (.call 2 (.cons (.var 0) .nil)) .nil)) .nil))) .nil)
abbrev N_job_tube : List Str := ["jobs", "found", "hour", "due", "come", "arrival", "end", "work"]
abbrev p_job_tube : List Str := ["jobs"]
def c_job_tube : Ss := (.cons (.exp (.call 1 (.cons (.var 0) .nil))) (.cons (.asg (.nm 1) (.lst .nil)) (.cons (.fr (.nm 2) (.r1 (.bin .add (.ix (.ix (.var 0) (.neg (.cst (.int 1)))) (.cst (.int 1))) (.cst (.int 1)))) (.cons (.par [3, 4] (.cons (.glb 0) (.cons (.glb 0) .nil))) (.cons (.fr (.tp (.cons (.nm 5) (.cons (.nm 6) (.cons (.nm 7) .nil)))) (.seq (.var 0)) (.cons (.ifs (.cmp .le (.var 6) (.var 2)) (.cons (.asg (.nm 3) (.call 0 (.cons (.var 3) (.cons (.var 7) .nil)))) .nil) .nil) (.cons (.ifs (.cmp .lt (.var 5) (.var 2)) (.cons (.asg (.nm 4) (.call 0 (.cons (.var 4) (.cons (.var 7) .nil)))) .nil) .nil) .nil))) (.cons (.exp (.lm (.var 1) .append (.cons (.tup (.cons (.var 3) (.cons (.var 4) .nil))) .nil))) .nil)))) (.cons (.ret (.bif .tuple (.cons (.var 1) .nil))) .nil))))
abbrev N_check_jobs : List Str := ["thing"]
abbrev p_check_jobs : List Str := ["thing"]
def c_check_jobs : Ss := (.cons (.ifs (.not (.call 0 (.cons (.var 0) .nil))) (.cons .raise .nil) .nil) .nil)
abbrev N_is_jobs : List Str := ["thing", "job", "later"]
abbrev p_is_jobs : List Str := ["thing"]
def c_is_jobs : Ss := (.cons (.ifs (.or (.not (.isi (.var 0) .tuple)) (.or (.not (.chn .le .le (.cst (.int 1)) (.bif .len (.cons (.var 0) .nil)) (.glb 0))) (.not (.bif .all (.cons (.lc (.nm 1) (.seq (.var 0)) .no (.call 0 (.cons (.var 1) .nil)) [1]) .nil))))) (.cons (.ret (.cst (.bl false))) .nil) .nil) (.cons (.fr (.tp (.cons (.nm 1) (.cons (.nm 2) .nil))) (.zip (.var 0) (.sl (.var 0) (.yes (.cst (.int 1))) .no)) (.cons (.ifs (.or (.cmp .lt (.ix (.var 2) (.cst (.int 0))) (.ix (.var 1) (.cst (.int 0)))) (.cmp .lt (.ix (.var 2) (.cst (.int 1))) (.ix (.var 1) (.cst (.int 1))))) (.cons (.ret (.cst (.bl false))) .nil) .nil) .nil)) (.cons (.ret (.cst (.bl true))) .nil)))
abbrev N_is_job : List Str := ["thing"]
abbrev p_is_job : List Str := ["thing"]
def c_is_job : Ss := (.cons (.ifs (.or (.not (.isi (.var 0) .tuple)) (.or (.cmp .ne (.bif .len (.cons (.var 0) .nil)) (.cst (.int 3))) (.or (.not (.call 2 (.cons (.ix (.var 0) (.cst (.int 0))) .nil))) (.not (.call 2 (.cons (.ix (.var 0) (.cst (.int 1))) .nil)))))) (.cons (.ret (.cst (.bl false))) .nil) .nil) (.cons (.ret (.and (.chn3 .le .lt .le (.cst (.int 0)) (.ix (.var 0) (.cst (.int 0))) (.ix (.var 0) (.cst (.int 1))) (.glb 0)) (.and (.call 0 (.cons (.ix (.var 0) (.cst (.int 2))) .nil)) (.call 1 (.cons (.glb 1) (.cons (.ix (.var 0) (.cst (.int 2))) .nil)))))) .nil))
abbrev N_w_unlike : List Str := ["_law_one", "_law_other", "_law_less"]
abbrev p_w_unlike : List Str := ["_law_one", "_law_other"]
def c_w_unlike : Ss := (.cons (.ret (.call 0 (.cons (.lc (.nm 2) (.seq (.call 1 (.cons (.var 0) (.cons (.var 1) .nil)))) .no (.tup (.cons (.bif .abs (.cons (.ix (.var 2) (.cst (.int 0))) .nil)) (.cons (.ix (.var 2) (.cst (.int 1))) .nil))) [2]) .nil))) .nil)
abbrev N_w_together : List Str := ["_law_some_here", "_law_found", "_law_one"]
abbrev p_w_together : List Str := ["_law_some_here"]
def c_w_together : Ss := (.cons (.asg (.nm 1) (.tup (.cons (.cst (.int 0)) (.cons (.cst (.int 1)) .nil)))) (.cons (.fr (.nm 2) (.seq (.var 0)) (.cons (.asg (.nm 1) (.call 0 (.cons (.var 1) (.cons (.var 2) .nil)))) .nil)) (.cons (.ret (.var 1)) .nil)))
abbrev N_bought : List Str := ["needs", "room"]
abbrev p_bought : List Str := ["needs", "room"]
def c_bought : Ss := (.cons (.ret (.call 0 (.cons (.call 1 (.cons (.call 2 (.cons (.var 0) (.cons (.var 1) .nil))) .nil)) .nil))) .nil)
abbrev N_store_tube : List Str := ["needs", "room", "used", "found", "need"]
abbrev p_store_tube : List Str := ["needs", "room"]
def c_store_tube : Ss := (.cons (.exp (.call 1 (.cons (.var 0) (.cons (.var 1) .nil)))) (.cons (.asg (.nm 2) (.glb 0)) (.cons (.asg (.nm 3) (.lst (.cons (.tup (.cons (.glb 0) (.cons (.glb 0) .nil))) .nil))) (.cons (.fr (.nm 4) (.seq (.var 0)) (.cons (.asg (.nm 2) (.call 0 (.cons (.var 2) (.cons (.var 4) .nil)))) (.cons (.exp (.lm (.var 3) .append (.cons (.tup (.cons (.var 2) (.cons (.call 0 (.cons (.var 2) (.cons (.var 1) .nil))) .nil))) .nil))) .nil))) (.cons (.ret (.bif .tuple (.cons (.bin .add (.sl (.var 3) .no (.yes (.neg (.cst (.int 1))))) (.lst (.cons (.tup (.cons (.var 2) (.cons (.var 2) .nil))) .nil))) .nil))) .nil)))))
abbrev N_check_store : List Str := ["needs", "room", "one"]
abbrev p_check_store : List Str := ["needs", "room"]
def c_check_store : Ss := (.cons (.ifs (.or (.not (.isi (.var 0) .tuple)) (.not (.chn .le .le (.cst (.int 1)) (.bif .len (.cons (.var 0) .nil)) (.glb 0)))) (.cons .raise .nil) .nil) (.cons (.ifs (.not (.bif .all (.cons (.lc (.nm 2) (.seq (.var 0)) .no (.call 0 (.cons (.var 2) .nil)) [2]) .nil))) (.cons .raise .nil) .nil) (.cons (.ifs (.not (.call 0 (.cons (.var 1) .nil))) (.cons .raise .nil) .nil) .nil)))
abbrev N_is_amount : List Str := ["thing"]
abbrev p_is_amount : List Str := ["thing"]
def c_is_amount : Ss := (.cons (.ret (.and (.call 0 (.cons (.var 0) .nil)) (.cmp .ge (.ix (.var 0) (.cst (.int 0))) (.cst (.int 0))))) .nil)
abbrev N_w_jobs : List Str := ["_law_pack_here", "_law_most", "_law_found", "_law_arrival", "_law_due", "_law_turn", "_law_works", "_law_step"]
abbrev p_w_jobs : List Str := ["_law_pack_here", "_law_most"]
def c_w_jobs : Ss := (.cons (.asg (.nm 2) (.lst .nil)) (.cons (.asg (.nm 3) (.call 0 (.cons (.var 0) (.cons (.cst (.int 3)) .nil)))) (.cons (.asg (.nm 4) (.var 3)) (.cons (.fr (.nm 5) (.r1 (.bin .add (.cst (.int 1)) (.call 0 (.cons (.var 0) (.cons (.var 1) .nil))))) (.cons (.asg (.nm 3) (.bif .min (.cons (.cst (.int 23)) (.cons (.bin .add (.var 3) (.call 0 (.cons (.var 0) (.cons (.cst (.int 4)) .nil)))) .nil)))) (.cons (.asg (.nm 4) (.bif .min (.cons (.cst (.int 24)) (.cons (.bin .add (.bif .max (.cons (.var 4) (.cons (.bin .add (.var 3) (.cst (.int 1))) .nil))) (.bin .fdiv (.call 0 (.cons (.var 0) (.cons (.cst (.int 5)) .nil))) (.cst (.int 2)))) .nil)))) (.cons (.asg (.nm 6) (.lc (.nm 7) (.r1 (.cst (.int 2))) .no (.call 1 (.cons (.bin .add (.cst (.int 1)) (.call 0 (.cons (.var 0) (.cons (.cst (.int 12)) .nil)))) (.cons (.ix (.lst (.cons (.cst (.int 1)) (.cons (.cst (.int 1)) (.cons (.cst (.int 2)) (.cons (.cst (.int 3)) .nil))))) (.call 0 (.cons (.var 0) (.cons (.cst (.int 4)) .nil)))) .nil))) [7])) (.cons (.ifs (.cmp .eq (.call 0 (.cons (.var 0) (.cons (.cst (.int 3)) .nil))) (.cst (.int 0))) (.cons (.asg (.sub (.var 6) (.cst (.int 1))) (.ix (.var 6) (.cst (.int 0)))) .nil) .nil) (.cons (.exp (.lm (.var 2) .append (.cons (.tup (.cons (.var 3) (.cons (.var 4) (.cons (.ix (.var 6) (.cst (.int 0))) (.cons (.ix (.var 6) (.cst (.int 1))) .nil))))) .nil))) .nil)))))) (.cons (.ret (.var 2)) .nil)))))
end DL

namespace DL
open PySem PySem.Spec PyProof.Rows L2
abbrev N_law_k96 : List Str := ["_law_script", "_law_k"]
abbrev p_law_k96 : List Str := ["_law_script"]
def c_law_k96 : Ss := (.cons (.fr (.nm 1) (.r3 (.cst (.int 0)) (.bif .max (.cons (.cst (.int 1)) (.cons (.bif .min (.cons (.bif .len (.cons (.var 0) .nil)) (.cons (.cst (.int 8)) .nil))) .nil))) (.cst (.int 2))) (.cons (.ifs (.not (.call 0 (.cons (.call 1 (.cons (.var 0) (.cons (.var 1) .nil))) (.cons (.call 1 (.cons (.var 0) (.cons (.bin .add (.var 1) (.cst (.int 10))) .nil))) .nil)))) (.cons (.ret (.cst (.bl false))) .nil) .nil) .nil)) (.cons (.ret (.cst (.bl true))) .nil))
abbrev N_w_right_k96 : List Str := ["_law_pack_here", "_law_more_here", "_law_needs_here", "_law_less", "_law_room", "_law_plans", "_law_measure_here", "_law_other", "_law_pairs", "_law_ahead", "_law_behind", "_law_claim", "_law_paper"]
abbrev p_w_right_k96 : List Str := ["_law_pack_here", "_law_more_here"]
def c_w_right_k96 : Ss := (.cons (.asg (.nm 2) (.call 16 (.cons (.var 0) (.cons (.cst (.int 10)) .nil)))) (.cons (.asg (.nm 3) (.call 14 (.cons (.call 15 (.cons (.var 1) (.cons (.cst (.int 20)) .nil))) (.cons (.bin .add (.cst (.int 1)) (.call 15 (.cons (.var 1) (.cons (.cst (.int 3)) .nil)))) .nil)))) (.cons (.asg (.nm 4) (.call 13 (.cons (.var 3) (.cons (.call 14 (.cons (.call 15 (.cons (.var 1) (.cons (.cst (.int 20)) .nil))) (.cons (.bin .add (.cst (.int 1)) (.call 15 (.cons (.var 1) (.cons (.cst (.int 3)) .nil)))) .nil))) .nil)))) (.cons (.asg (.nm 5) (.lst (.cons (.call 12 (.cons (.var 2) (.cons (.tup (.cons (.cst (.int 0)) (.cons (.cst (.int 1)) .nil))) .nil))) (.cons (.call 12 (.cons (.var 2) (.cons (.var 3) .nil))) (.cons (.call 12 (.cons (.var 2) (.cons (.var 4) .nil))) .nil))))) (.cons (.ifs (.or (.cmp .ne (.ix (.var 5) (.cst (.int 0))) (.var 2)) (.cmp .ne (.call 9 (.cons (.call 10 (.cons (.call 11 (.cons (.var 2) (.cons (.var 4) .nil))) .nil)) .nil)) (.ix (.var 5) (.cst (.int 2))))) (.cons (.ret (.cst (.bl false))) .nil) .nil) (.cons (.ifs (.or (.not (.call 6 (.cons (.var 2) (.cons (.var 3) (.cons (.ix (.var 5) (.cst (.int 1))) .nil))))) (.not (.call 6 (.cons (.var 2) (.cons (.var 4) (.cons (.ix (.var 5) (.cst (.int 2))) .nil)))))) (.cons (.ret (.cst (.bl false))) .nil) .nil) (.cons (.ifs (.or (.not (.call 5 (.cons (.ix (.var 5) (.cst (.int 0))) (.cons (.ix (.var 5) (.cst (.int 1))) .nil)))) (.not (.call 5 (.cons (.ix (.var 5) (.cst (.int 1))) (.cons (.ix (.var 5) (.cst (.int 2))) .nil))))) (.cons (.ret (.cst (.bl false))) .nil) .nil) (.cons (.asg (.nm 6) (.call 8 (.cons (.var 1) (.cons (.cst (.int 4)) (.cons (.cst (.int 9)) .nil))))) (.cons (.asg (.nm 7) (.call 7 (.cons (.var 1) (.cons (.var 2) (.cons (.var 3) .nil))))) (.cons (.asg (.nm 8) (.lst (.cons (.tup (.cons (.ix (.var 5) (.cst (.int 1))) (.cons (.ix (.var 5) (.cst (.int 2))) .nil))) .nil))) (.cons (.ifs (.call 6 (.cons (.var 2) (.cons (.var 3) (.cons (.var 7) .nil)))) (.cons (.exp (.lm (.var 8) .append (.cons (.tup (.cons (.var 7) (.cons (.ix (.var 5) (.cst (.int 1))) .nil))) .nil))) .nil) .nil) (.cons (.fr (.tp (.cons (.nm 9) (.cons (.nm 10) .nil))) (.seq (.var 8)) (.cons (.ifs (.not (.call 5 (.cons (.var 9) (.cons (.var 10) .nil)))) (.cons (.ret (.cst (.bl false))) .nil) .nil) (.cons (.ifs (.call 2 (.cons (.call 3 (.cons (.var 6) (.cons (.call 4 (.cons (.tup (.cons (.cst (.int 0)) (.cons (.cst (.int 1)) .nil))) (.cons (.var 9) .nil))) .nil))) (.cons (.call 3 (.cons (.var 6) (.cons (.call 4 (.cons (.tup (.cons (.cst (.int 0)) (.cons (.cst (.int 1)) .nil))) (.cons (.var 10) .nil))) .nil))) .nil))) (.cons (.ret (.cst (.bl false))) .nil) .nil) .nil))) (.cons (.asg (.tp (.cons (.nm 11) (.cons (.nm 12) .nil))) (.call 1 (.cons (.var 2) (.cons (.var 3) .nil)))) (.cons (.ret (.and (.isB true (.call 0 (.cons (.var 11) (.cons (.var 12) .nil))) true) (.cmp .eq (.call 0 (.cons (.bin .add (.sl (.var 11) .no (.yes (.cst (.int 3)))) (.tup (.cons (.var 7) .nil))) (.cons (.var 12) .nil))) (.cmp .eq (.var 7) (.ix (.var 5) (.cst (.int 1))))))) .nil))))))))))))))
abbrev N_w_needs : List Str := ["_law_pack_here", "_law_most", "_law_found", "_law_turn"]
abbrev p_w_needs : List Str := ["_law_pack_here", "_law_most"]
def c_w_needs : Ss := (.cons (.asg (.nm 2) (.lst .nil)) (.cons (.fr (.nm 3) (.r1 (.bin .add (.cst (.int 1)) (.call 0 (.cons (.var 0) (.cons (.var 1) .nil))))) (.cons (.exp (.lm (.var 2) .append (.cons (.call 1 (.cons (.call 0 (.cons (.var 0) (.cons (.cst (.int 13)) .nil))) (.cons (.ix (.lst (.cons (.cst (.int 1)) (.cons (.cst (.int 1)) (.cons (.cst (.int 1)) (.cons (.cst (.int 2)) (.cons (.cst (.int 3)) (.cons (.cst (.int 4)) .nil))))))) (.call 0 (.cons (.var 0) (.cons (.cst (.int 6)) .nil)))) .nil))) .nil))) .nil)) (.cons (.ret (.bif .tuple (.cons (.var 2) .nil))) .nil)))
abbrev N_w_measure : List Str := ["_law_pack_here", "_law_most", "_law_wide", "_law_found", "_law_turn", "_law_weight"]
abbrev p_w_measure : List Str := ["_law_pack_here", "_law_most", "_law_wide"]
def c_w_measure : Ss := (.cons (.asg (.nm 3) (.lst .nil)) (.cons (.fr (.nm 4) (.r1 (.bin .add (.cst (.int 1)) (.call 0 (.cons (.var 0) (.cons (.var 1) .nil))))) (.cons (.asg (.nm 5) (.call 2 (.cons (.bin .add (.cst (.int 1)) (.call 0 (.cons (.var 0) (.cons (.cst (.int 9)) .nil)))) (.cons (.bin .add (.cst (.int 1)) (.call 0 (.cons (.var 0) (.cons (.cst (.int 3)) .nil)))) .nil)))) (.cons (.exp (.lm (.var 3) .append (.cons (.tup (.cons (.ix (.lst (.cons (.cst (.str "above")) (.cons (.cst (.str "below")) .nil))) (.call 0 (.cons (.var 0) (.cons (.cst (.int 2)) .nil)))) (.cons (.call 1 (.cons (.var 0) (.cons (.var 2) .nil))) (.cons (.var 5) .nil)))) .nil))) .nil))) (.cons (.ret (.bif .tuple (.cons (.var 3) .nil))) .nil)))
abbrev N_w_other_plan : List Str := ["_law_pack_here", "_law_needs_here", "_law_room", "_law_left", "_law_found", "_law_k", "_law_part", "_law_full"]
abbrev p_w_other_plan : List Str := ["_law_pack_here", "_law_needs_here", "_law_room"]
def c_w_other_plan : Ss := (.cons (.asg (.nm 3) (.tup (.cons (.cst (.int 0)) (.cons (.cst (.int 1)) .nil)))) (.cons (.asg (.nm 4) (.lst .nil)) (.cons (.fr (.nm 5) (.r1 (.bif .len (.cons (.var 1) .nil))) (.cons (.asg (.nm 6) (.ix (.lst (.cons (.tup (.cons (.cst (.int 0)) (.cons (.cst (.int 1)) .nil))) (.cons (.tup (.cons (.cst (.int 1)) (.cons (.cst (.int 1)) .nil))) (.cons (.tup (.cons (.cst (.int 1)) (.cons (.cst (.int 2)) .nil))) (.cons (.tup (.cons (.cst (.int 1)) (.cons (.cst (.int 3)) .nil))) .nil))))) (.call 4 (.cons (.var 0) (.cons (.cst (.int 4)) .nil))))) (.cons (.asg (.nm 7) (.call 3 (.cons (.var 2) (.cons (.var 6) .nil)))) (.cons (.ifs (.cmp .eq (.var 5) (.bin .sub (.bif .len (.cons (.var 1) .nil)) (.cst (.int 1)))) (.cons (.asg (.nm 7) (.tup (.cons (.cst (.int 0)) (.cons (.cst (.int 1)) .nil)))) .nil) .nil) (.cons (.ifs (.call 2 (.cons (.call 1 (.cons (.ix (.var 1) (.var 5)) (.cons (.var 7) .nil))) (.cons (.var 3) .nil))) (.cons (.asg (.nm 7) (.call 0 (.cons (.var 3) (.cons (.ix (.var 1) (.var 5)) .nil)))) .nil) .nil) (.cons (.exp (.lm (.var 4) .append (.cons (.call 0 (.cons (.call 1 (.cons (.ix (.var 1) (.var 5)) (.cons (.var 7) .nil))) (.cons (.var 3) .nil))) .nil))) (.cons (.asg (.nm 3) (.var 7)) .nil))))))) (.cons (.ret (.bif .tuple (.cons (.var 4) .nil))) .nil))))
abbrev N_w_by : List Str := ["_law_one", "_law_other"]
abbrev p_w_by : List Str := ["_law_one", "_law_other"]
def c_w_by : Ss := (.cons (.ret (.call 0 (.cons (.bin .mul (.ix (.var 0) (.cst (.int 0))) (.ix (.var 1) (.cst (.int 0)))) (.cons (.bin .mul (.ix (.var 0) (.cst (.int 1))) (.ix (.var 1) (.cst (.int 1)))) .nil)))) .nil)
abbrev N_w_stored_right : List Str := ["_law_needs_here", "_law_room", "_law_plan", "_law_left", "_law_k"]
abbrev p_w_stored_right : List Str := ["_law_needs_here", "_law_room", "_law_plan"]
def c_w_stored_right : Ss := (.cons (.asg (.nm 3) (.tup (.cons (.cst (.int 0)) (.cons (.cst (.int 1)) .nil)))) (.cons (.fr (.nm 4) (.r1 (.bif .len (.cons (.var 0) .nil))) (.cons (.asg (.nm 3) (.call 1 (.cons (.call 2 (.cons (.var 3) (.cons (.ix (.var 2) (.var 4)) .nil))) (.cons (.ix (.var 0) (.var 4)) .nil)))) (.cons (.ifs (.or (.call 0 (.cons (.ix (.var 2) (.var 4)) (.cons (.tup (.cons (.cst (.int 0)) (.cons (.cst (.int 1)) .nil))) .nil))) (.or (.call 0 (.cons (.var 3) (.cons (.tup (.cons (.cst (.int 0)) (.cons (.cst (.int 1)) .nil))) .nil))) (.call 0 (.cons (.var 1) (.cons (.var 3) .nil))))) (.cons (.ret (.cst (.bl false))) .nil) .nil) .nil))) (.cons (.ret (.cmp .eq (.var 3) (.tup (.cons (.cst (.int 0)) (.cons (.cst (.int 1)) .nil))))) .nil)))
abbrev N_paper_store : List Str := ["needs", "room"]
abbrev p_paper_store : List Str := ["needs", "room"]
def c_paper_store : Ss := (.cons (.ret (.tup (.cons (.tup (.cons (.cst (.str "store")) (.cons (.var 0) (.cons (.var 1) (.cons (.call 0 (.cons (.var 0) (.cons (.var 1) .nil))) .nil))))) (.cons (.cst .non) .nil)))) .nil)
abbrev N_w_led_2 : List Str := ["_law_one", "_law_other", "_law_found"]
abbrev p_w_led_2 : List Str := ["_law_one", "_law_other"]
def c_w_led_2 : Ss := (.cons (.asg (.nm 2) (.call 1 (.cons (.var 0) (.cons (.var 1) .nil)))) (.cons (.ret (.and (.isN false (.var 2)) (.cmp .eq (.call 0 (.cons (.var 0) (.cons (.var 2) .nil))) (.var 1)))) .nil))
abbrev N_worth : List Str := ["measure", "row"]
abbrev p_worth : List Str := ["measure", "row"]
def c_worth : Ss := (.cons (.exp (.call 3 (.cons (.var 0) .nil))) (.cons (.exp (.call 2 (.cons (.var 1) .nil))) (.cons (.ret (.call 0 (.cons (.var 0) (.cons (.call 1 (.cons (.var 1) .nil)) .nil)))) .nil)))
abbrev N_check_measure : List Str := ["thing"]
abbrev p_check_measure : List Str := ["thing"]
def c_check_measure : Ss := (.cons (.ifs (.not (.call 0 (.cons (.var 0) .nil))) (.cons .raise .nil) .nil) .nil)
abbrev N_is_measure : List Str := ["thing", "part"]
abbrev p_is_measure : List Str := ["thing"]
def c_is_measure : Ss := (.cons (.ifs (.or (.not (.isi (.var 0) .tuple)) (.not (.chn .le .le (.cst (.int 1)) (.bif .len (.cons (.var 0) .nil)) (.glb 0)))) (.cons (.ret (.cst (.bl false))) .nil) .nil) (.cons (.ret (.bif .all (.cons (.lc (.nm 1) (.seq (.var 0)) .no (.call 0 (.cons (.var 1) .nil)) [1]) .nil))) .nil))
abbrev N_is_part : List Str := ["thing"]
abbrev p_is_part : List Str := ["thing"]
def c_is_part : Ss := (.cons (.ifs (.or (.not (.isi (.var 0) .tuple)) (.or (.cmp .ne (.bif .len (.cons (.var 0) .nil)) (.cst (.int 3))) (.or (.not (.isi (.ix (.var 0) (.cst (.int 0))) .str)) (.inn false (.ix (.var 0) (.cst (.int 0))) (.glb 1))))) (.cons (.ret (.cst (.bl false))) .nil) .nil) (.cons (.ret (.and (.call 0 (.cons (.ix (.var 0) (.cst (.int 1))) .nil)) (.and (.call 0 (.cons (.ix (.var 0) (.cst (.int 2))) .nil)) (.call 1 (.cons (.glb 0) (.cons (.ix (.var 0) (.cst (.int 2))) .nil)))))) .nil))
abbrev N_steps_worth : List Str := ["measure", "some", "found", "step", "part"]
abbrev p_steps_worth : List Str := ["measure", "some"]
def c_steps_worth : Ss := (.cons (.asg (.nm 2) (.glb 0)) (.cons (.fr (.nm 3) (.seq (.var 1)) (.cons (.asg (.nm 2) (.call 0 (.cons (.var 2) (.cons (.call 1 (.cons (.lc (.nm 4) (.seq (.var 0)) .no (.call 2 (.cons (.var 4) (.cons (.var 3) .nil))) [4]) .nil)) .nil)))) .nil)) (.cons (.ret (.var 2)) .nil)))
abbrev N_total : List Str := ["some", "found", "one"]
abbrev p_total : List Str := ["some"]
def c_total : Ss := (.cons (.asg (.nm 1) (.glb 0)) (.cons (.fr (.nm 2) (.seq (.var 0)) (.cons (.asg (.nm 1) (.call 0 (.cons (.var 1) (.cons (.var 2) .nil)))) .nil)) (.cons (.ret (.var 1)) .nil)))
abbrev N_part_worth : List Str := ["part", "step", "side", "point", "weight", "over"]
abbrev p_part_worth : List Str := ["part", "step"]
def c_part_worth : Ss := (.cons (.asg (.tp (.cons (.nm 2) (.cons (.nm 3) (.cons (.nm 4) .nil)))) (.var 0)) (.cons (.asg (.nm 5) (.call 2 (.cons (.var 1) (.cons (.var 3) .nil)))) (.cons (.ifs (.cmp .eq (.var 2) (.cst (.str "below"))) (.cons (.asg (.nm 5) (.call 2 (.cons (.var 3) (.cons (.var 1) .nil)))) .nil) .nil) (.cons (.ifs (.call 1 (.cons (.var 5) (.cons (.glb 0) .nil))) (.cons (.ret (.glb 0)) .nil) .nil) (.cons (.ret (.call 0 (.cons (.var 4) (.cons (.var 5) .nil)))) .nil)))))
abbrev N_multiplied : List Str := ["one", "other"]
abbrev p_multiplied : List Str := ["one", "other"]
def c_multiplied : Ss := (.cons (.ret (.call 0 (.cons (.bin .mul (.ix (.var 0) (.cst (.int 0))) (.ix (.var 1) (.cst (.int 0)))) (.cons (.bin .mul (.ix (.var 0) (.cst (.int 1))) (.ix (.var 1) (.cst (.int 1)))) .nil)))) .nil)
abbrev N_holds : List Str := ["claim", "paper", "word", "size", "check"]
abbrev p_holds : List Str := ["claim", "paper"]
def c_holds : Ss := (.cons (.ifs (.or (.not (.isi (.var 0) .tuple)) (.or (.cmp .eq (.var 0) (.tup .nil)) (.not (.isi (.ix (.var 0) (.cst (.int 0))) .str)))) (.cons (.ret (.cst (.bl false))) .nil) .nil) (.cons (.fr (.tp (.cons (.nm 2) (.cons (.nm 3) (.cons (.nm 4) .nil)))) (.seq (.glb 0)) (.cons (.ifs (.and (.cmp .eq (.ix (.var 0) (.cst (.int 0))) (.var 2)) (.cmp .eq (.bif .len (.cons (.var 0) .nil)) (.var 3))) (.cons (.ret (.callv 4 (.cons (.var 0) (.cons (.var 1) .nil)))) .nil) .nil) .nil)) (.cons (.ret (.cst (.bl false))) .nil)))
abbrev N_taut_claim : List Str := ["claim", "paper"]
abbrev p_taut_claim : List Str := ["claim", "paper"]
def c_taut_claim : Ss := (.cons (.ifs (.isN false (.var 1)) (.cons (.ret (.cst (.bl false))) .nil) .nil) (.cons (.ifs (.cmp .eq (.ix (.var 0) (.cst (.int 0))) (.cst (.str "taut"))) (.cons (.ret (.call 2 (.cons (.ix (.var 0) (.cst (.int 1))) (.cons (.ix (.var 0) (.cst (.int 2))) .nil)))) .nil) .nil) (.cons (.ifs (.cmp .eq (.ix (.var 0) (.cst (.int 0))) (.cst (.str "loose"))) (.cons (.ret (.call 1 (.cons (.ix (.var 0) (.cst (.int 1))) (.cons (.ix (.var 0) (.cst (.int 2))) .nil)))) .nil) .nil) (.cons (.ret (.call 0 (.cons (.ix (.var 0) (.cst (.int 1))) (.cons (.ix (.var 0) (.cst (.int 2))) .nil)))) .nil))))
abbrev N_leveller_claim : List Str := ["claim", "paper", "some", "other"]
abbrev p_leveller_claim : List Str := ["claim", "paper"]
def c_leveller_claim : Ss := (.cons (.asg (.tp (.cons (.nm 2) (.cons (.nm 3) .nil))) (.sl (.var 0) (.yes (.cst (.int 1))) .no)) (.cons (.ifs (.or (.not (.call 1 (.cons (.var 2) .nil))) (.or (.not (.call 1 (.cons (.var 3) .nil))) (.or (.cmp .ne (.bif .len (.cons (.var 2) .nil)) (.bif .len (.cons (.var 3) .nil))) (.not (.isi (.var 1) .tuple))))) (.cons (.ret (.cst (.bl false))) .nil) .nil) (.cons (.thru (.cons (.ret (.cmp .eq (.call 0 (.cons (.var 3) (.cons (.var 1) .nil))) (.var 2))) .nil)) .nil)))
abbrev N_no_leveller_claim : List Str := ["claim", "paper", "some", "other"]
abbrev p_no_leveller_claim : List Str := ["claim", "paper"]
def c_no_leveller_claim : Ss := (.cons (.asg (.tp (.cons (.nm 2) (.cons (.nm 3) .nil))) (.sl (.var 0) (.yes (.cst (.int 1))) .no)) (.cons (.ifs (.or (.not (.call 4 (.cons (.var 2) .nil))) (.or (.not (.call 4 (.cons (.var 3) .nil))) (.cmp .ne (.bif .len (.cons (.var 2) .nil)) (.bif .len (.cons (.var 3) .nil))))) (.cons (.ret (.cst (.bl false))) .nil) .nil) (.cons (.ifs (.isN true (.var 1)) (.cons (.ret (.cmp .ne (.call 3 (.cons (.var 2) .nil)) (.call 3 (.cons (.var 3) .nil)))) .nil) .nil) (.cons (.ifs (.or (.not (.call 2 (.cons (.var 1) .nil))) (.not (.chn .le .le (.cst (.int 1)) (.var 1) (.bif .len (.cons (.var 2) .nil))))) (.cons (.ret (.cst (.bl false))) .nil) .nil) (.cons (.ret (.call 0 (.cons (.call 1 (.cons (.var 3) (.cons (.var 1) .nil))) (.cons (.call 1 (.cons (.var 2) (.cons (.var 1) .nil))) .nil)))) .nil)))))
abbrev N_not_taut_claim : List Str := ["claim", "paper", "tube", "row"]
abbrev p_not_taut_claim : List Str := ["claim", "paper"]
def c_not_taut_claim : Ss := (.cons (.asg (.tp (.cons (.nm 2) (.cons (.nm 3) .nil))) (.sl (.var 0) (.yes (.cst (.int 1))) .no)) (.cons (.ifs (.or (.not (.call 2 (.cons (.var 2) .nil))) (.or (.not (.call 3 (.cons (.var 2) (.cons (.var 3) .nil)))) (.not (.call 3 (.cons (.var 2) (.cons (.var 1) .nil)))))) (.cons (.ret (.cst (.bl false))) .nil) .nil) (.cons (.ret (.call 0 (.cons (.call 1 (.cons (.var 1) .nil)) (.cons (.call 1 (.cons (.var 3) .nil)) .nil)))) .nil)))
abbrev N_smooth_claim : List Str := ["claim", "paper"]
abbrev p_smooth_claim : List Str := ["claim", "paper"]
def c_smooth_claim : Ss := (.cons (.ifs (.isN false (.var 1)) (.cons (.ret (.cst (.bl false))) .nil) .nil) (.cons (.ifs (.cmp .eq (.ix (.var 0) (.cst (.int 0))) (.cst (.str "smooth"))) (.cons (.ret (.call 1 (.cons (.ix (.var 0) (.cst (.int 1))) (.cons (.ix (.var 0) (.cst (.int 2))) (.cons (.ix (.var 0) (.cst (.int 3))) .nil))))) .nil) .nil) (.cons (.ret (.call 0 (.cons (.ix (.var 0) (.cst (.int 1))) (.cons (.ix (.var 0) (.cst (.int 2))) .nil)))) .nil)))
abbrev N_settled_claim : List Str := ["claim", "paper", "tube", "touches", "here", "touch", "shown"]
abbrev p_settled_claim : List Str := ["claim", "paper"]
def c_settled_claim : Ss := (.cons (.asg (.tp (.cons (.nm 2) (.cons (.nm 3) .nil))) (.sl (.var 0) (.yes (.cst (.int 1))) .no)) (.cons (.ifs (.or (.not (.call 2 (.cons (.var 2) .nil))) (.or (.cmp .ne (.ix (.ix (.var 2) (.cst (.int 0))) (.cst (.int 0))) (.ix (.ix (.var 2) (.cst (.int 0))) (.cst (.int 1)))) (.not (.isi (.var 3) .tuple)))) (.cons (.ret (.cst (.bl false))) .nil) .nil) (.cons (.ifs (.or (.not (.isi (.var 1) .tuple)) (.cmp .ne (.bif .len (.cons (.var 1) .nil)) (.bif .len (.cons (.var 3) .nil)))) (.cons (.ret (.cst (.bl false))) .nil) .nil) (.cons (.asg (.nm 4) (.tup (.cons (.cst (.int 0)) (.cons (.ix (.ix (.var 2) (.cst (.int 0))) (.cst (.int 0))) .nil)))) (.cons (.fr (.tp (.cons (.nm 5) (.cons (.nm 6) .nil))) (.zip (.var 3) (.var 1)) (.cons (.ifs (.or (.not (.call 0 (.cons (.var 5) (.cons (.bin .add (.ix (.var 4) (.cst (.int 0))) (.cst (.int 1))) (.cons (.bif .len (.cons (.var 2) .nil)) .nil))))) (.not (.call 1 (.cons (.var 2) (.cons (.var 4) (.cons (.var 5) (.cons (.var 6) .nil))))))) (.cons (.ret (.cst (.bl false))) .nil) .nil) (.cons (.asg (.nm 4) (.var 5)) .nil))) (.cons (.ret (.cst (.bl true))) .nil))))))
abbrev N_use_claim : List Str := ["claim", "paper"]
abbrev p_use_claim : List Str := ["claim", "paper"]
def c_use_claim : Ss := (.cons (.ifs (.isN false (.var 1)) (.cons (.ret (.cst (.bl false))) .nil) .nil) (.cons (.ifs (.cmp .eq (.ix (.var 0) (.cst (.int 0))) (.cst (.str "store"))) (.cons (.ret (.call 2 (.cons (.ix (.var 0) (.cst (.int 1))) (.cons (.ix (.var 0) (.cst (.int 2))) (.cons (.ix (.var 0) (.cst (.int 3))) .nil))))) .nil) .nil) (.cons (.ifs (.cmp .eq (.ix (.var 0) (.cst (.int 0))) (.cst (.str "speeds"))) (.cons (.ret (.call 1 (.cons (.ix (.var 0) (.cst (.int 1))) (.cons (.ix (.var 0) (.cst (.int 2))) .nil)))) .nil) .nil) (.cons (.ret (.call 0 (.cons (.ix (.var 0) (.cst (.int 1))) (.cons (.ix (.var 0) (.cst (.int 2))) (.cons (.ix (.var 0) (.cst (.int 3))) .nil))))) .nil))))
abbrev N_are_done : List Str := ["jobs", "speeds", "thing", "hour", "here", "some", "job", "stretch", "part"]
abbrev p_are_done : List Str := ["jobs", "speeds", "thing"]
def c_are_done : Ss := (.cons (.ifs (.or (.not (.call 2 (.cons (.var 0) .nil))) (.not (.call 3 (.cons (.var 1) (.cons (.ix (.ix (.var 0) (.neg (.cst (.int 1)))) (.cst (.int 1))) .nil))))) (.cons (.ret (.cst (.bl false))) .nil) .nil) (.cons (.ifs (.or (.not (.isi (.var 2) .tuple)) (.cmp .ne (.bif .len (.cons (.var 2) .nil)) (.bif .len (.cons (.var 0) .nil)))) (.cons (.ret (.cst (.bl false))) .nil) .nil) (.cons (.ifs (.not (.bif .all (.cons (.lc (.tp (.cons (.nm 6) (.cons (.nm 5) .nil))) (.zip (.var 0) (.var 2)) .no (.call 1 (.cons (.var 6) (.cons (.var 5) .nil))) [6, 5]) .nil))) (.cons (.ret (.cst (.bl false))) .nil) .nil) (.cons (.fr (.nm 3) (.r1 (.bif .len (.cons (.var 1) .nil))) (.cons (.asg (.nm 4) (.lst .nil)) (.cons (.fr (.nm 5) (.seq (.var 2)) (.cons (.exp (.lm (.var 4) .extend (.cons (.lc (.tp (.cons (.nm 7) (.cons (.nm 8) .nil))) (.seq (.var 5)) (.yes (.cmp .eq (.var 7) (.var 3))) (.var 8) [7, 8]) .nil))) .nil)) (.cons (.ifs (.cmp .ne (.call 0 (.cons (.var 4) .nil)) (.ix (.var 1) (.var 3))) (.cons (.ret (.cst (.bl false))) .nil) .nil) .nil)))) (.cons (.ret (.cst (.bl true))) .nil)))))
abbrev N_is_bought : List Str := ["needs", "room", "thing", "one"]
abbrev p_is_bought : List Str := ["needs", "room", "thing"]
def c_is_bought : Ss := (.cons (.ifs (.or (.not (.call 3 (.cons (.var 0) .nil))) (.or (.not (.call 4 (.cons (.var 1) .nil))) (.not (.call 5 (.cons (.var 2) (.cons (.bif .len (.cons (.var 0) .nil)) .nil)))))) (.cons (.ret (.cst (.bl false))) .nil) .nil) (.cons (.ifs (.bif .any (.cons (.lc (.nm 3) (.seq (.var 0)) .no (.cmp .lt (.ix (.var 3) (.cst (.int 0))) (.cst (.int 0))) [3]) .nil)) (.cons (.ret (.cst (.bl false))) .nil) .nil) (.cons (.ret (.call 0 (.cons (.call 2 (.cons (.var 0) (.cons (.var 1) .nil))) (.cons (.call 1 (.cons (.var 2) .nil)) .nil)))) .nil)))
abbrev N_is_cord : List Str := ["tube", "row"]
abbrev p_is_cord : List Str := ["tube", "row"]
def c_is_cord : Ss := (.cons (.ret (.and (.call 0 (.cons (.var 0) .nil)) (.and (.call 1 (.cons (.var 0) (.cons (.var 1) .nil))) (.call 2 (.cons (.var 0) (.cons (.var 1) .nil)))))) .nil)
abbrev N_is_row : List Str := ["tube", "thing", "pair", "one"]
abbrev p_is_row : List Str := ["tube", "thing"]
def c_is_row : Ss := (.cons (.exp (.call 2 (.cons (.var 0) .nil))) (.cons (.ifs (.not (.call 1 (.cons (.var 1) (.cons (.bif .len (.cons (.var 0) .nil)) (.cons (.bif .len (.cons (.var 0) .nil)) .nil))))) (.cons (.ret (.cst (.bl false))) .nil) .nil) (.cons (.ret (.bif .all (.cons (.lc (.tp (.cons (.nm 2) (.cons (.nm 3) .nil))) (.zip (.var 0) (.var 1)) .no (.call 0 (.cons (.var 2) (.cons (.var 3) .nil))) [2, 3]) .nil))) .nil)))
abbrev N_check_tube : List Str := ["thing"]
abbrev p_check_tube : List Str := ["thing"]
def c_check_tube : Ss := (.cons (.ifs (.not (.call 0 (.cons (.var 0) .nil))) (.cons .raise .nil) .nil) .nil)
abbrev N_is_within : List Str := ["pair", "one"]
abbrev p_is_within : List Str := ["pair", "one"]
def c_is_within : Ss := (.cons (.ret (.and (.not (.call 0 (.cons (.var 1) (.cons (.ix (.var 0) (.cst (.int 0))) .nil)))) (.not (.call 0 (.cons (.ix (.var 0) (.cst (.int 1))) (.cons (.var 1) .nil)))))) .nil)
abbrev N_bends_right : List Str := ["tube", "row", "some", "k"]
abbrev p_bends_right : List Str := ["tube", "row"]
def c_bends_right : Ss := (.cons (.asg (.nm 2) (.call 1 (.cons (.var 1) .nil))) (.cons (.ret (.bif .all (.cons (.lc (.nm 3) (.r2 (.cst (.int 1)) (.bif .len (.cons (.var 2) .nil))) .no (.call 0 (.cons (.ix (.var 2) (.bin .sub (.var 3) (.cst (.int 1)))) (.cons (.ix (.var 2) (.var 3)) (.cons (.ix (.var 1) (.var 3)) (.cons (.ix (.var 0) (.var 3)) .nil))))) [3]) .nil))) .nil))
abbrev N_steps_of : List Str := ["row", "k"]
abbrev p_steps_of : List Str := ["row"]
def c_steps_of : Ss := (.cons (.ret (.lc (.nm 1) (.r1 (.bin .sub (.bif .len (.cons (.var 0) .nil)) (.cst (.int 1)))) .no (.call 0 (.cons (.ix (.var 0) (.bin .add (.var 1) (.cst (.int 1)))) (.cons (.ix (.var 0) (.var 1)) .nil))) [1])) .nil)
abbrev N_bend_right : List Str := ["ahead", "behind", "height", "bounds"]
abbrev p_bend_right : List Str := ["ahead", "behind", "height", "bounds"]
def c_bend_right : Ss := (.cons (.ifs (.call 0 (.cons (.var 0) (.cons (.var 1) .nil))) (.cons (.ret (.cmp .eq (.var 2) (.ix (.var 3) (.cst (.int 1))))) .nil) .nil) (.cons (.ret (.or (.not (.call 0 (.cons (.var 1) (.cons (.var 0) .nil)))) (.cmp .eq (.var 2) (.ix (.var 3) (.cst (.int 0)))))) .nil))
abbrev N_store_bounds : List Str := ["needs", "room", "some", "inner", "one"]
abbrev p_store_bounds : List Str := ["needs", "room"]
def c_store_bounds : Ss := (.cons (.asg (.nm 2) (.call 1 (.cons (.var 0) .nil))) (.cons (.asg (.nm 3) (.lc (.nm 4) (.seq (.sl (.var 2) (.yes (.cst (.int 1))) (.yes (.neg (.cst (.int 1)))))) .no (.tup (.cons (.var 4) (.cons (.call 0 (.cons (.var 4) (.cons (.var 1) .nil))) .nil))) [4])) (.cons (.ret (.bif .tuple (.cons (.bin .add (.bin .add (.lst (.cons (.tup (.cons (.glb 0) (.cons (.glb 0) .nil))) .nil)) (.var 3)) (.lst (.cons (.tup (.cons (.ix (.var 2) (.neg (.cst (.int 1)))) (.cons (.ix (.var 2) (.neg (.cst (.int 1)))) .nil))) .nil))) .nil))) .nil)))
abbrev N_sums_of : List Str := ["some", "found", "one"]
abbrev p_sums_of : List Str := ["some"]
def c_sums_of : Ss := (.cons (.asg (.nm 1) (.lst (.cons (.glb 0) .nil))) (.cons (.fr (.nm 2) (.seq (.var 0)) (.cons (.exp (.lm (.var 1) .append (.cons (.call 0 (.cons (.ix (.var 1) (.neg (.cst (.int 1)))) (.cons (.var 2) .nil))) .nil))) .nil)) (.cons (.ret (.bif .tuple (.cons (.var 1) .nil))) .nil)))
abbrev N_are_steps : List Str := ["thing"]
abbrev p_are_steps : List Str := ["thing"]
def c_are_steps : Ss := (.cons (.ret (.and (.isi (.var 0) .tuple) (.and (.chn .le .le (.cst (.int 1)) (.bif .len (.cons (.var 0) .nil)) (.glb 0)) (.call 0 (.cons (.var 0) (.cons (.bif .len (.cons (.var 0) .nil)) .nil)))))) .nil)
abbrev N_are_numbers_2 : List Str := ["thing", "many", "one"]
abbrev p_are_numbers_2 : List Str := ["thing", "many"]
def c_are_numbers_2 : Ss := (.cons (.ret (.and (.isi (.var 0) .tuple) (.and (.cmp .eq (.bif .len (.cons (.var 0) .nil)) (.var 1)) (.bif .all (.cons (.lc (.nm 2) (.seq (.var 0)) .no (.call 0 (.cons (.var 2) .nil)) [2]) .nil))))) .nil)
abbrev N_is_price_2 : List Str := ["thing"]
abbrev p_is_price_2 : List Str := ["thing"]
def c_is_price_2 : Ss := (.cons (.ret (.and (.call 0 (.cons (.var 0) .nil)) (.cmp .ge (.ix (.var 0) (.cst (.int 0))) (.cst (.int 0))))) .nil)
abbrev N_are_speeds : List Str := ["jobs", "thing"]
abbrev p_are_speeds : List Str := ["jobs", "thing"]
def c_are_speeds : Ss := (.cons (.ret (.and (.call 0 (.cons (.var 0) .nil)) (.and (.call 1 (.cons (.var 1) (.cons (.ix (.ix (.var 0) (.neg (.cst (.int 1)))) (.cst (.int 1))) .nil))) (.call 2 (.cons (.call 4 (.cons (.var 0) .nil)) (.cons (.call 3 (.cons (.var 1) .nil)) .nil)))))) .nil)
abbrev N_row_of : List Str := ["first", "some", "found", "one"]
abbrev p_row_of : List Str := ["first", "some"]
def c_row_of : Ss := (.cons (.ifs (.not (.call 2 (.cons (.var 0) .nil))) (.cons .raise .nil) .nil) (.cons (.ifs (.not (.call 1 (.cons (.var 1) (.cons (.cst (.int 1)) (.cons (.bin .sub (.glb 0) (.cst (.int 1))) .nil))))) (.cons .raise .nil) .nil) (.cons (.asg (.nm 2) (.lst (.cons (.var 0) .nil))) (.cons (.fr (.nm 3) (.seq (.var 1)) (.cons (.exp (.lm (.var 2) .append (.cons (.call 0 (.cons (.ix (.var 2) (.neg (.cst (.int 1)))) (.cons (.var 3) .nil))) .nil))) .nil)) (.cons (.ret (.bif .tuple (.cons (.var 2) .nil))) .nil)))))
abbrev N_w_pack_2 : List Str := ["_law_script", "_law_k", "_law_found", "_law_at"]
abbrev p_w_pack_2 : List Str := ["_law_script", "_law_k"]
def c_w_pack_2 : Ss := (.cons (.asg (.nm 2) (.cst (.int 0))) (.cons (.fr (.nm 3) (.seq (.lst (.cons (.bin .add (.var 1) (.cst (.int 1))) (.cons (.var 1) .nil)))) (.cons (.asg (.nm 2) (.bin .add (.bin .mul (.var 2) (.bin .pow (.cst (.int 10)) (.cst (.int 60)))) (.call 0 (.cons (.ix (.bin .add (.sl (.var 0) (.yes (.var 3)) (.yes (.bin .add (.var 3) (.cst (.int 1))))) (.lst (.cons (.bin .add (.bin .mul (.cst (.int 6211)) (.var 3)) (.cst (.int 71))) .nil))) (.cst (.int 0))) .nil)))) .nil)) (.cons (.ret (.lst (.cons (.var 2) .nil))) .nil)))
abbrev N_w_mixed_2 : List Str := ["_law_cell"]
abbrev p_w_mixed_2 : List Str := ["_law_cell"]
def c_w_mixed_2 : Ss := (.cons (.ret (.bin .mod (.bin .mul (.var 0) (.cst (.int 698970004336018804786261105275506973231810118537891458689573))) (.bin .pow (.cst (.int 10)) (.cst (.int 60))))) .nil)
end DL

/-! CM1 -/
/-! cords: the greedy stretch, plain mathematics -/
namespace LC

/-- a stretch from a at h by slope s to its touch m at y -/
structure Touch (lo hi : Nat → Rat) (n a : Nat) (h s : Rat) (m : Nat) (y : Rat) : Prop where
  lt : a < m
  le : m ≤ n
  eq : y = h + s * ((m : Rat) - a)
  inn : ∀ k : Nat, a < k → k ≤ m → lo k ≤ h + s * ((k : Rat) - a) ∧ h + s * ((k : Rat) - a) ≤ hi k
  why : (y = hi m ∧ ∃ j : Nat, m < j ∧ j ≤ n ∧ h + s * ((j : Rat) - a) < lo j ∧ ∀ k : Nat, m < k → k < j → h + s * ((k : Rat) - a) < hi k) ∨
    (y = lo m ∧ ∃ j : Nat, m < j ∧ j ≤ n ∧ hi j < h + s * ((j : Rat) - a) ∧ ∀ k : Nat, m < k → k < j → lo k < h + s * ((k : Rat) - a)) ∨ m = n
/-- the touch is above: the cord will turn upward there -/
def Up (lo hi : Nat → Rat) (n a : Nat) (h s : Rat) (m : Nat) : Prop := ∃ j : Nat, m < j ∧ j ≤ n ∧ h + s * ((j : Rat) - a) < lo j ∧ ∀ k : Nat, m < k → k < j → h + s * ((k : Rat) - a) < hi k
def Down (lo hi : Nat → Rat) (n a : Nat) (h s : Rat) (m : Nat) : Prop := ∃ j : Nat, m < j ∧ j ≤ n ∧ hi j < h + s * ((j : Rat) - a) ∧ ∀ k : Nat, m < k → k < j → lo k < h + s * ((k : Rat) - a)
theorem cast_lt {a b : Nat} (h : a < b) : (a : Rat) < b := Rat.natCast_lt_natCast.mpr h
theorem cast_le {a b : Nat} (h : a ≤ b) : (a : Rat) ≤ b := Rat.natCast_le_natCast.mpr h
section
variable {lo hi : Nat → Rat} {n a m m' : Nat} {h s y s' y' : Rat}
theorem line_le (hs : s' ≤ s) (he : y = h + s * ((m : Rat) - a)) {k : Nat} (hk : m ≤ k) : y + s' * ((k : Rat) - m) ≤ h + s * ((k : Rat) - a) := by
  have h1 : (0 : Rat) ≤ (k : Rat) - m := by have := cast_le hk; grind
  have h2 := Rat.mul_le_mul_of_nonneg_right hs h1
  rw [he]
  grind
theorem line_ge (hs : s ≤ s') (he : y = h + s * ((m : Rat) - a)) {k : Nat} (hk : m ≤ k) : h + s * ((k : Rat) - a) ≤ y + s' * ((k : Rat) - m) := by
  have h1 : (0 : Rat) ≤ (k : Rat) - m := by have := cast_le hk; grind
  have h2 := Rat.mul_le_mul_of_nonneg_right hs h1
  rw [he]
  grind
theorem bend_up (ok : ∀ k, k ≤ n → lo k ≤ hi k) (T : Touch lo hi n a h s m y) (U : Up lo hi n a h s m) (T' : Touch lo hi n m y s' m' y') : s < s' := by
  apply Rat.not_le.mp
  intro hs
  have line : ∀ k : Nat, m ≤ k → y + s' * ((k : Rat) - m) ≤ h + s * ((k : Rat) - a) := fun k hk => line_le hs T.eq hk
  obtain ⟨j, j1, j2, j3, j4⟩ := U
  by_cases hj : j ≤ m'
  · have i := (T'.inn j j1 hj).1
    have l := line j (by omega)
    grind
  · have e := T'.eq
    have l := line m' (by have := T'.lt; omega)
    have l2 := j4 m' T'.lt (by omega)
    rcases T'.why with ⟨w, _⟩ | ⟨w, j', i1, i2, i3, i4⟩ | w
    · grind
    · have lj := line j' (by have := T'.lt; omega)
      by_cases c : j' < j
      · have := j4 j' (by have := T'.lt; omega) c
        grind
      · by_cases c2 : j' = j
        · subst c2
          have := ok j' i2
          grind
        · have := i4 j (by omega) (by omega)
          have lj2 := line j (by omega)
          grind
    · omega
theorem bend_down (ok : ∀ k, k ≤ n → lo k ≤ hi k) (T : Touch lo hi n a h s m y) (U : Down lo hi n a h s m) (T' : Touch lo hi n m y s' m' y') : s' < s := by
  apply Rat.not_le.mp
  intro hs
  have line : ∀ k : Nat, m ≤ k → h + s * ((k : Rat) - a) ≤ y + s' * ((k : Rat) - m) := fun k hk => line_ge hs T.eq hk
  obtain ⟨j, j1, j2, j3, j4⟩ := U
  by_cases hj : j ≤ m'
  · have i := (T'.inn j j1 hj).2
    have l := line j (by omega)
    grind
  · have e := T'.eq
    have l := line m' (by have := T'.lt; omega)
    have l2 := j4 m' T'.lt (by omega)
    rcases T'.why with ⟨w, j', i1, i2, i3, i4⟩ | ⟨w, _⟩ | w
    · have lj := line j' (by have := T'.lt; omega)
      by_cases c : j' < j
      · have := j4 j' (by have := T'.lt; omega) c
        grind
      · by_cases c2 : j' = j
        · subst c2
          have := ok j' i2
          grind
        · have := i4 j (by omega) (by omega)
          have lj2 := line j (by omega)
          grind
    · grind
    · omega
end

/-! ### the search for a touch: most and least as they grow -/
/-- behind the places up to j: the least of the upper slopes (M, latest at m), the greatest of the lower ones (L, latest at l) -/
structure Srch (lo hi : Nat → Rat) (a : Nat) (h : Rat) (j : Nat) (M : Rat) (m : Nat) (L : Rat) (l : Nat) : Prop where
  m1 : a < m
  m2 : m ≤ j
  m3 : h + M * ((m : Rat) - a) = hi m
  m4 : ∀ k : Nat, a < k → k ≤ j → h + M * ((k : Rat) - a) ≤ hi k
  m5 : ∀ k : Nat, m < k → k ≤ j → h + M * ((k : Rat) - a) < hi k
  l1 : a < l
  l2 : l ≤ j
  l3 : h + L * ((l : Rat) - a) = lo l
  l4 : ∀ k : Nat, a < k → k ≤ j → lo k ≤ h + L * ((k : Rat) - a)
  l5 : ∀ k : Nat, l < k → k ≤ j → lo k < h + L * ((k : Rat) - a)
  le : L ≤ M
section
variable {lo hi : Nat → Rat} {n a j m l : Nat} {h M L : Rat}
theorem gap_pos {a k : Nat} (hk : a < k) : (0 : Rat) < (k : Rat) - a := by have := cast_lt hk; grind
theorem slope_le {x M d : Rat} (hd : 0 < d) (h : x / d ≤ M) : x ≤ M * d := by
  have := Rat.mul_le_mul_of_nonneg_right h (Rat.le_of_lt hd)
  rwa [Rat.div_mul_cancel (fun z => by rw [z] at hd; exact Rat.lt_irrefl hd)] at this
theorem slope_ge {x M d : Rat} (hd : 0 < d) (h : M ≤ x / d) : M * d ≤ x := by
  have := Rat.mul_le_mul_of_nonneg_right h (Rat.le_of_lt hd)
  rwa [Rat.div_mul_cancel (fun z => by rw [z] at hd; exact Rat.lt_irrefl hd)] at this
theorem slope_lt {x M d : Rat} (hd : 0 < d) (h : x / d < M) : x < M * d := by
  have := Rat.mul_lt_mul_of_pos_right h hd
  rwa [Rat.div_mul_cancel (fun z => by rw [z] at hd; exact Rat.lt_irrefl hd)] at this
theorem slope_gt {x M d : Rat} (hd : 0 < d) (h : M < x / d) : M * d < x := by
  have := Rat.mul_lt_mul_of_pos_right h hd
  rwa [Rat.div_mul_cancel (fun z => by rw [z] at hd; exact Rat.lt_irrefl hd)] at this
theorem slope_eq {x d : Rat} (hd : 0 < d) : x / d * d = x := Rat.div_mul_cancel (fun z => by rw [z] at hd; exact Rat.lt_irrefl hd)
theorem mono_line {M M' : Rat} {a k : Nat} (hk : a < k) (hM : M ≤ M') : M * ((k : Rat) - a) ≤ M' * ((k : Rat) - a) := Rat.mul_le_mul_of_nonneg_right hM (Rat.le_of_lt (gap_pos hk))
theorem mono_lt {M M' : Rat} {a k : Nat} (hk : a < k) (hM : M < M') : M * ((k : Rat) - a) < M' * ((k : Rat) - a) := Rat.mul_lt_mul_of_pos_right hM (gap_pos hk)
/-- the first place -/
theorem srch_first (ok : lo (a + 1) ≤ hi (a + 1)) : Srch lo hi a h (a + 1) ((hi (a + 1) - h) / (((a + 1 : Nat) : Rat) - a)) (a + 1) ((lo (a + 1) - h) / (((a + 1 : Nat) : Rat) - a)) (a + 1) := by
  have hd : (0 : Rat) < ((a + 1 : Nat) : Rat) - a := gap_pos (by omega)
  have e1 := slope_eq (x := hi (a + 1) - h) hd
  have e2 := slope_eq (x := lo (a + 1) - h) hd
  have one : ∀ k : Nat, a < k → k ≤ a + 1 → k = a + 1 := fun k _ _ => by omega
  refine ⟨by omega, by omega, by grind, fun k k1 k2 => ?_, fun k k1 k2 => by omega, by omega, by omega, by grind, fun k k1 k2 => ?_, fun k k1 k2 => by omega, ?_⟩
  · rw [one k k1 k2]; grind
  · rw [one k k1 k2]; grind
  · apply Rat.not_lt.mp
    intro c
    have := Rat.mul_lt_mul_of_pos_right c hd
    grind
/-- a place behind that crosses neither -/
theorem srch_next (ok : lo (j + 1) ≤ hi (j + 1)) (S : Srch lo hi a h j M m L l) (c1 : ¬ M < (lo (j + 1) - h) / (((j + 1 : Nat) : Rat) - a)) (c2 : ¬ (hi (j + 1) - h) / (((j + 1 : Nat) : Rat) - a) < L) :
    Srch lo hi a h (j + 1) (if M < (hi (j + 1) - h) / (((j + 1 : Nat) : Rat) - a) then M else (hi (j + 1) - h) / (((j + 1 : Nat) : Rat) - a)) (if M < (hi (j + 1) - h) / (((j + 1 : Nat) : Rat) - a) then m else j + 1)
      (if (lo (j + 1) - h) / (((j + 1 : Nat) : Rat) - a) < L then L else (lo (j + 1) - h) / (((j + 1 : Nat) : Rat) - a)) (if (lo (j + 1) - h) / (((j + 1 : Nat) : Rat) - a) < L then l else j + 1) := by
  have haj : a < j + 1 := by have := S.m1; have := S.m2; omega
  have hd : (0 : Rat) < ((j + 1 : Nat) : Rat) - a := gap_pos haj
  have e1 := slope_eq (x := hi (j + 1) - h) hd
  have e2 := slope_eq (x := lo (j + 1) - h) hd
  generalize hU : (hi (j + 1) - h) / (((j + 1 : Nat) : Rat) - a) = U at *
  generalize hV : (lo (j + 1) - h) / (((j + 1 : Nat) : Rat) - a) = V at *
  have vu : V ≤ U := by
    apply Rat.not_lt.mp
    intro c
    have := Rat.mul_lt_mul_of_pos_right c hd
    grind
  have d1 := Rat.not_lt.mp c1
  have d2 := Rat.not_lt.mp c2
  have s := S
  obtain ⟨m1, m2, m3, m4, m5, l1, l2, l3, l4, l5, le⟩ := s
  have last : ∀ k : Nat, k ≤ j + 1 → ¬ k ≤ j → k = j + 1 := fun k _ _ => by omega
  by_cases cu : M < U
  · have f1 := mono_lt haj cu
    simp only [if_pos cu]
    by_cases cv : V < L
    · have f2 := mono_lt haj cv
      simp only [if_pos cv]
      refine ⟨m1, by omega, m3, fun k k1 k2 => ?_, fun k k1 k2 => ?_, l1, by omega, l3, fun k k1 k2 => ?_, fun k k1 k2 => ?_, le⟩
      all_goals (by_cases c : k ≤ j)
      · exact m4 k k1 c
      · rw [last k k2 c]; grind
      · exact m5 k k1 c
      · rw [last k k2 c]; grind
      · exact l4 k k1 c
      · rw [last k k2 c]; grind
      · exact l5 k k1 c
      · rw [last k k2 c]; grind
    · simp only [if_neg cv]
      have cv' := Rat.not_lt.mp cv
      refine ⟨m1, by omega, m3, fun k k1 k2 => ?_, fun k k1 k2 => ?_, haj, by omega, by grind, fun k k1 k2 => ?_, fun k k1 k2 => by omega, d1⟩
      all_goals (by_cases c : k ≤ j)
      · exact m4 k k1 c
      · rw [last k k2 c]; grind
      · exact m5 k k1 c
      · rw [last k k2 c]; grind
      · have := l4 k k1 c; have := mono_line k1 cv'; grind
      · rw [last k k2 c]; grind
  · simp only [if_neg cu]
    have cu' := Rat.not_lt.mp cu
    by_cases cv : V < L
    · have f2 := mono_lt haj cv
      simp only [if_pos cv]
      refine ⟨haj, by omega, by grind, fun k k1 k2 => ?_, fun k k1 k2 => by omega, l1, by omega, l3, fun k k1 k2 => ?_, fun k k1 k2 => ?_, d2⟩
      all_goals (by_cases c : k ≤ j)
      · have := m4 k k1 c; have := mono_line k1 cu'; grind
      · rw [last k k2 c]; grind
      · exact l4 k k1 c
      · rw [last k k2 c]; grind
      · exact l5 k k1 c
      · rw [last k k2 c]; grind
    · simp only [if_neg cv]
      have cv' := Rat.not_lt.mp cv
      refine ⟨haj, by omega, by grind, fun k k1 k2 => ?_, fun k k1 k2 => by omega, haj, by omega, by grind, fun k k1 k2 => ?_, fun k k1 k2 => by omega, vu⟩
      all_goals (by_cases c : k ≤ j)
      · have := m4 k k1 c; have := mono_line k1 cu'; grind
      · rw [last k k2 c]; grind
      · have := l4 k k1 c; have := mono_line k1 cv'; grind
      · rw [last k k2 c]; grind
/-- the next place crosses the least upper slope -/
theorem touch_most (S : Srch lo hi a h j M m L l) (hj : j + 1 ≤ n) (c : M < (lo (j + 1) - h) / (((j + 1 : Nat) : Rat) - a)) : Touch lo hi n a h M m (hi m) := by
  have hd : (0 : Rat) < ((j + 1 : Nat) : Rat) - a := gap_pos (by have := S.m1; have := S.m2; omega)
  have f := slope_gt hd c
  refine ⟨S.m1, by have := S.m2; omega, S.m3.symm, fun k k1 k2 => ⟨?_, S.m4 k k1 (by have := S.m2; omega)⟩, .inl ⟨rfl, j + 1, by have := S.m2; omega, hj, by grind, fun k k1 k2 => S.m5 k k1 (by omega)⟩⟩
  have := S.l4 k k1 (by have := S.m2; omega)
  have := mono_line k1 S.le
  grind
theorem touch_least (S : Srch lo hi a h j M m L l) (hj : j + 1 ≤ n) (c : (hi (j + 1) - h) / (((j + 1 : Nat) : Rat) - a) < L) : Touch lo hi n a h L l (lo l) := by
  have hd : (0 : Rat) < ((j + 1 : Nat) : Rat) - a := gap_pos (by have := S.m1; have := S.m2; omega)
  have f := slope_lt hd c
  refine ⟨S.l1, by have := S.l2; omega, S.l3.symm, fun k k1 k2 => ⟨S.l4 k k1 (by have := S.l2; omega), ?_⟩, .inr (.inl ⟨rfl, j + 1, by have := S.l2; omega, hj, by grind, fun k k1 k2 => S.l5 k k1 (by omega)⟩)⟩
  have := S.m4 k k1 (by have := S.l2; omega)
  have := mono_line k1 S.le
  grind
/-- the end is reached -/
theorem touch_end (S : Srch lo hi a h n M m L l) (e : lo n = hi n) (hn : a < n) : Touch lo hi n a h M m (hi m) := by
  have hm : m = n := by
    apply Decidable.byContradiction
    intro c
    have f1 := S.m5 n (by have := S.m2; omega) (Nat.le_refl _)
    have f2 := S.l4 n hn (Nat.le_refl _)
    have f3 := mono_line hn S.le
    grind
  refine ⟨S.m1, S.m2, S.m3.symm, fun k k1 k2 => ⟨?_, S.m4 k k1 (by have := S.m2; omega)⟩, .inr (.inr hm)⟩
  have := S.l4 k k1 (by have := S.m2; omega)
  have := mono_line k1 S.le
  grind
end
end LC

/-! CM2 -/
/-! taut rows, and what two of them owe each other -/
namespace LC

structure Taut (lo hi : Nat → Rat) (n : Nat) (R : Nat → Rat) : Prop where
  inn : ∀ k, k ≤ n → lo k ≤ R k ∧ R k ≤ hi k
  up : ∀ k, k + 1 < n → R (k + 1) - R k < R (k + 2) - R (k + 1) → R (k + 1) = hi (k + 1)
  dn : ∀ k, k + 1 < n → R (k + 2) - R (k + 1) < R (k + 1) - R k → R (k + 1) = lo (k + 1)
/-- a row drawn up to a -/
structure Part (lo hi : Nat → Rat) (n a : Nat) (R : Nat → Rat) : Prop where
  inn : ∀ k, k ≤ a → lo k ≤ R k ∧ R k ≤ hi k
  up : ∀ k, k + 1 < a → R (k + 1) - R k < R (k + 2) - R (k + 1) → R (k + 1) = hi (k + 1)
  dn : ∀ k, k + 1 < a → R (k + 2) - R (k + 1) < R (k + 1) - R k → R (k + 1) = lo (k + 1)
  end_ : a = 0 ∨ ∃ a0 s0, Touch lo hi n a0 (R a0) s0 a (R a) ∧ ∀ k, a = k + 1 → R (k + 1) - R k = s0
section
variable {lo hi : Nat → Rat} {n a m : Nat} {s y : Rat} {R R' : Nat → Rat}
theorem part_zero (h : lo 0 ≤ R 0 ∧ R 0 ≤ hi 0) : Part lo hi n 0 R := ⟨fun k hk => by rw [Nat.le_zero.mp hk]; exact h, fun k hk => by omega, fun k hk => by omega, .inl rfl⟩
theorem part_more (ok : ∀ k, k ≤ n → lo k ≤ hi k) (P : Part lo hi n a R) (T : Touch lo hi n a (R a) s m y) (e1 : ∀ k, k ≤ a → R' k = R k) (e2 : ∀ k : Nat, a < k → k ≤ m → R' k = R a + s * ((k : Rat) - a)) : Part lo hi n m R' := by
  have hlt := T.lt
  have e2' : ∀ k : Nat, a ≤ k → k ≤ m → R' k = R a + s * ((k : Rat) - a) := fun k k1 k2 => by
    by_cases c : a = k
    · subst c
      rw [e1 a (Nat.le_refl _)]; grind
    · exact e2 k (by omega) k2
  have step : ∀ k : Nat, a ≤ k → k + 1 ≤ m → R' (k + 1) - R' k = s := fun k k1 k2 => by
    rw [e2' k k1 (by omega), e2' (k + 1) (by omega) k2]
    have : ((k + 1 : Nat) : Rat) = (k : Rat) + 1 := by simp
    grind
  have hm : R' m = y := by rw [e2 m hlt (Nat.le_refl _), T.eq]
  have bend : ∀ k, k + 1 = a → (R' (k + 1) - R' k < s → R' (k + 1) = hi (k + 1)) ∧ (s < R' (k + 1) - R' k → R' (k + 1) = lo (k + 1)) := fun k hk => by
    rcases P.end_ with z | ⟨a0, s0, T0, h0⟩
    · omega
    · have hs := h0 k hk.symm
      rw [e1 (k + 1) (by omega), e1 k (by omega), hs]
      subst hk
      rcases T0.why with ⟨w, U⟩ | ⟨w, U⟩ | w
      · have := bend_up ok T0 U T
        exact ⟨fun _ => w, fun c => by grind⟩
      · have := bend_down ok T0 U T
        exact ⟨fun c => by grind, fun _ => w⟩
      · have := T.lt; have := T.le; omega
  refine ⟨fun k hk => ?_, fun k hk c => ?_, fun k hk c => ?_, .inr ⟨a, s, ?_, fun k hk => step k (by omega) (by omega)⟩⟩
  · by_cases c : k ≤ a
    · rw [e1 k c]; exact P.inn k c
    · rw [e2 k (by omega) hk]; exact T.inn k (by omega) hk
  · by_cases c1 : k + 2 ≤ a
    · rw [e1 (k + 2) c1, e1 (k + 1) (by omega), e1 k (by omega)] at c
      rw [e1 (k + 1) (by omega)]
      exact P.up k (by omega) c
    · by_cases c2 : k + 1 = a
      · have st := step (k + 1) (by omega) (by omega)
        rw [st] at c
        exact (bend k c2).1 c
      · have st := step (k + 1) (by omega) (by omega)
        have st2 := step k (by omega) (by omega)
        rw [st, st2] at c
        exact absurd c Rat.lt_irrefl
  · by_cases c1 : k + 2 ≤ a
    · rw [e1 (k + 2) c1, e1 (k + 1) (by omega), e1 k (by omega)] at c
      rw [e1 (k + 1) (by omega)]
      exact P.dn k (by omega) c
    · by_cases c2 : k + 1 = a
      · have st := step (k + 1) (by omega) (by omega)
        rw [st] at c
        exact (bend k c2).2 c
      · have st := step (k + 1) (by omega) (by omega)
        have st2 := step k (by omega) (by omega)
        rw [st, st2] at c
        exact absurd c Rat.lt_irrefl
  · rw [e1 a (Nat.le_refl _), hm]; exact T
theorem part_taut (P : Part lo hi n n R) : Taut lo hi n R := ⟨P.inn, P.up, P.dn⟩
end

/-! ### sums -/
def sumTo (f : Nat → Rat) : Nat → Rat
  | 0 => 0
  | n + 1 => sumTo f n + f n
theorem sum_le {f g : Nat → Rat} : ∀ {n : Nat}, (∀ k, k < n → f k ≤ g k) → sumTo f n ≤ sumTo g n
  | 0, _ => Rat.le_refl
  | n + 1, h => by
    have := sum_le (n := n) fun k hk => h k (by omega)
    have := h n (by omega)
    simp only [sumTo]; grind
theorem sum_add (f g : Nat → Rat) : ∀ n : Nat, sumTo (fun k => f k + g k) n = sumTo f n + sumTo g n
  | 0 => by simp only [sumTo]; grind
  | n + 1 => by simp only [sumTo, sum_add f g n]; grind
theorem sum_sub (f g : Nat → Rat) : ∀ n : Nat, sumTo (fun k => f k - g k) n = sumTo f n - sumTo g n
  | 0 => by simp only [sumTo]; grind
  | n + 1 => by simp only [sumTo, sum_sub f g n]; grind
theorem sum_congr {f g : Nat → Rat} : ∀ {n : Nat}, (∀ k, k < n → f k = g k) → sumTo f n = sumTo g n
  | 0, _ => rfl
  | n + 1, h => by simp only [sumTo, sum_congr (n := n) fun k hk => h k (by omega), h n (by omega)]
/-- telescopes -/
theorem sum_steps (R : Nat → Rat) : ∀ n : Nat, sumTo (fun k => R (k + 1) - R k) n = R n - R 0
  | 0 => by simp only [sumTo]; grind
  | n + 1 => by simp only [sumTo, sum_steps R n]; grind
/-- summation by parts: W stands for what is gained up to k -/
theorem abel (c W : Nat → Rat) : ∀ n : Nat, sumTo (fun k => c k * (W (k + 1) - W k)) (n + 1) = c n * W (n + 1) - c 0 * W 0 - sumTo (fun k => (c (k + 1) - c k) * W (k + 1)) n
  | 0 => by simp only [sumTo]; grind
  | n + 1 => by
    rw [sumTo, abel c W n]
    simp only [sumTo]
    grind
/-- weights that may change only where it does not hurt -/
theorem abel_le (c W : Nat → Rat) (n : Nat) (w0 : W 0 = 0) (wn : W (n + 1) = 0) (h : ∀ k, k < n → (c (k + 1) - c k) * W (k + 1) ≤ 0) : 0 ≤ sumTo (fun k => c k * (W (k + 1) - W k)) (n + 1) := by
  rw [abel, w0, wn]
  have h1 : sumTo (fun k => (c (k + 1) - c k) * W (k + 1)) n ≤ sumTo (fun _ => 0) n := sum_le h
  have h2 : ∀ n, sumTo (fun _ => (0 : Rat)) n = 0 := fun n => by
    induction n with
    | zero => rfl
    | succ n ih => simp only [sumTo, ih]; grind
  rw [h2] at h1
  grind
/-- a hinge -/
def hinge (t x : Rat) : Rat := if t < x then x - t else 0
def slopeH (t x : Rat) : Rat := if t < x then 1 else 0
theorem hinge_ge (t x y : Rat) : slopeH t x * (y - x) ≤ hinge t y - hinge t x := by
  unfold slopeH hinge
  by_cases h1 : t < x <;> by_cases h2 : t < y <;> simp only [h1, h2, if_true, if_false] <;> grind
/-- THE LAW of rows: u the steps of the taut, v those of the others; W(k) the others' lead at k -/
theorem hinge_law (u v : Nat → Rat) (W : Nat → Rat) (n : Nat) (hW : ∀ k, k ≤ n → W (k + 1) - W k = v k - u k) (w0 : W 0 = 0) (wn : W (n + 1) = 0)
    (hup : ∀ k, k < n → u k < u (k + 1) → W (k + 1) ≤ 0) (hdn : ∀ k, k < n → u (k + 1) < u k → 0 ≤ W (k + 1)) (t : Rat) : sumTo (fun k => hinge t (u k)) (n + 1) ≤ sumTo (fun k => hinge t (v k)) (n + 1) := by
  have h1 := abel_le (fun k => slopeH t (u k)) W n w0 wn fun k hk => by
    show (slopeH t (u (k + 1)) - slopeH t (u k)) * W (k + 1) ≤ 0
    by_cases c1 : t < u k <;> by_cases c2 : t < u (k + 1) <;> simp only [slopeH, c1, c2, if_true, if_false]
    · grind
    · have := hdn k hk (by grind)
      grind
    · have := hup k hk (by grind)
      grind
    · grind
  have h2 : sumTo (fun k => slopeH t (u k) * (W (k + 1) - W k)) (n + 1) ≤ sumTo (fun k => hinge t (v k) - hinge t (u k)) (n + 1) := sum_le fun k hk => by
    rw [hW k (by omega)]
    exact hinge_ge t (u k) (v k)
  rw [sum_sub] at h2
  grind
end LC

/-! CM3 -/
/-! two taut rows in tubes of one width: their differences; hinges and falling rows -/
namespace LC

section
variable {A B p q S T : Nat → Rat} {n : Nat}
/-- tubes about A and about B, p above and q below, tied at the ends -/
theorem diff_law (hS : Taut (fun k => if 0 < k ∧ k < n + 1 then A k - q k else A k) (fun k => if 0 < k ∧ k < n + 1 then A k + p k else A k) (n + 1) S)
    (hT : Taut (fun k => if 0 < k ∧ k < n + 1 then B k - q k else B k) (fun k => if 0 < k ∧ k < n + 1 then B k + p k else B k) (n + 1) T) (A0 : A 0 = B 0) (t : Rat) :
    sumTo (fun k => hinge t ((T (k + 1) - T k) - (S (k + 1) - S k))) (n + 1) ≤ sumTo (fun k => hinge t ((B (k + 1) - B k) - (A (k + 1) - A k))) (n + 1) := by
  have z : ∀ {C D : Nat → Rat}, Taut (fun k => if 0 < k ∧ k < n + 1 then C k - q k else C k) (fun k => if 0 < k ∧ k < n + 1 then C k + p k else C k) (n + 1) D → D 0 = C 0 ∧ D (n + 1) = C (n + 1) := fun {C D} h => by
    have h0 := h.inn 0 (by omega)
    have h1 := h.inn (n + 1) (Nat.le_refl _)
    simp at h0 h1
    exact ⟨by grind, by grind⟩
  have zS := z hS
  have zT := z hT
  have mid : ∀ {C D : Nat → Rat}, Taut (fun k => if 0 < k ∧ k < n + 1 then C k - q k else C k) (fun k => if 0 < k ∧ k < n + 1 then C k + p k else C k) (n + 1) D → ∀ k, k < n → (C (k + 1) - q (k + 1) ≤ D (k + 1) ∧ D (k + 1) ≤ C (k + 1) + p (k + 1)) ∧
      (D (k + 1) - D k < D (k + 2) - D (k + 1) → D (k + 1) = C (k + 1) + p (k + 1)) ∧ (D (k + 2) - D (k + 1) < D (k + 1) - D k → D (k + 1) = C (k + 1) - q (k + 1)) := fun {C D} h k hk => by
    have h0 := h.inn (k + 1) (by omega)
    have h1 := h.up k (by omega)
    have h2 := h.dn k (by omega)
    have c : 0 < k + 1 ∧ k + 1 < n + 1 := by omega
    simp only [if_pos c] at h0 h1 h2
    exact ⟨h0, h1, h2⟩
  refine hinge_law (fun k => (T (k + 1) - T k) - (S (k + 1) - S k)) (fun k => (B (k + 1) - B k) - (A (k + 1) - A k)) (fun k => (B k - T k) - (A k - S k)) n (fun k hk => by grind) (by grind) (by grind) (fun k hk c => ?_) (fun k hk c => ?_) t
  · obtain ⟨s1, s2, s3⟩ := mid hS k hk
    obtain ⟨t1, t2, t3⟩ := mid hT k hk
    show (B (k + 1) - T (k + 1)) - (A (k + 1) - S (k + 1)) ≤ 0
    by_cases c1 : T (k + 1) - T k < T (k + 2) - T (k + 1)
    · have := t2 c1; grind
    · by_cases c2 : S (k + 2) - S (k + 1) < S (k + 1) - S k
      · have := s3 c2; grind
      · have c' : T (k + 1) - T k - (S (k + 1) - S k) < T (k + 2) - T (k + 1) - (S (k + 2) - S (k + 1)) := c
        grind
  · obtain ⟨s1, s2, s3⟩ := mid hS k hk
    obtain ⟨t1, t2, t3⟩ := mid hT k hk
    show 0 ≤ (B (k + 1) - T (k + 1)) - (A (k + 1) - S (k + 1))
    by_cases c1 : T (k + 2) - T (k + 1) < T (k + 1) - T k
    · have := t3 c1; grind
    · by_cases c2 : S (k + 1) - S k < S (k + 2) - S (k + 1)
      · have := s2 c2; grind
      · have c' : T (k + 2) - T (k + 1) - (S (k + 2) - S (k + 1)) < T (k + 1) - T k - (S (k + 1) - S k) := c
        grind
end

/-! ### rows as lists -/
def sumL : List Rat → Rat
  | [] => 0
  | x :: xs => x + sumL xs
theorem sumL_append : ∀ xs ys : List Rat, sumL (xs ++ ys) = sumL xs + sumL ys
  | [], ys => by simp only [List.nil_append, sumL]; grind
  | x :: xs, ys => by simp only [List.cons_append, sumL, sumL_append xs ys]; grind
theorem sumL_perm {xs ys : List Rat} (h : xs.Perm ys) : sumL xs = sumL ys := by
  induction h with
  | nil => rfl
  | cons x _ ih => simp only [sumL, ih]
  | swap x y l => simp only [sumL]; grind
  | trans _ _ i1 i2 => exact i1.trans i2
theorem sumL_range (f : Nat → Rat) : ∀ n : Nat, sumL ((List.range n).map f) = sumTo f n
  | 0 => rfl
  | n + 1 => by rw [List.range_succ, List.map_append, sumL_append, sumL_range f n]; simp only [List.map_cons, List.map_nil, sumL, sumTo]; grind
/-- hinges of a list -/
def hinges (t : Rat) (xs : List Rat) : Rat := sumL (xs.map (hinge t))
theorem hinge_nn (t x : Rat) : 0 ≤ hinge t x := by unfold hinge; split <;> grind
theorem hinge_le (t x : Rat) : x - t ≤ hinge t x := by unfold hinge; split <;> grind
theorem sumL_nn : ∀ {xs : List Rat}, (∀ x ∈ xs, 0 ≤ x) → 0 ≤ sumL xs
  | [], _ => Rat.le_refl
  | x :: xs, h => by
    have := h x List.mem_cons_self
    have := sumL_nn (xs := xs) fun y hy => h y (List.mem_cons_of_mem _ hy)
    simp only [sumL]; grind
theorem hinges_nn (t : Rat) (xs : List Rat) : 0 ≤ hinges t xs := sumL_nn fun x h => by
  obtain ⟨y, _, rfl⟩ := List.mem_map.mp h
  exact hinge_nn t y
theorem hinges_append (t : Rat) (xs ys : List Rat) : hinges t (xs ++ ys) = hinges t xs + hinges t ys := by
  unfold hinges; rw [List.map_append, sumL_append]
theorem hinges_perm {t : Rat} {xs ys : List Rat} (h : xs.Perm ys) : hinges t xs = hinges t ys := sumL_perm (h.map _)
theorem hinges_ge (t : Rat) : ∀ xs : List Rat, sumL xs - (xs.length : Rat) * t ≤ hinges t xs
  | [] => by unfold hinges; simp only [List.map_nil, sumL, List.length_nil]; grind
  | x :: xs => by
    have h1 := hinges_ge t xs
    have h2 := hinge_le t x
    unfold hinges at h1 ⊢
    have : ((xs.length + 1 : Nat) : Rat) = (xs.length : Rat) + 1 := by simp
    simp only [List.map_cons, sumL, List.length_cons, this]
    grind
/-- all above t: the hinges are plain -/
theorem hinges_eq {t : Rat} : ∀ {xs : List Rat}, (∀ x ∈ xs, t ≤ x) → hinges t xs = sumL xs - (xs.length : Rat) * t
  | [], _ => by unfold hinges; simp only [List.map_nil, sumL, List.length_nil]; grind
  | x :: xs, h => by
    have h1 := hinges_eq (t := t) (xs := xs) fun y hy => h y (List.mem_cons_of_mem _ hy)
    have h2 := h x List.mem_cons_self
    unfold hinges at h1 ⊢
    have h3 : hinge t x = x - t := by unfold hinge; split <;> grind
    have : ((xs.length + 1 : Nat) : Rat) = (xs.length : Rat) + 1 := by simp
    simp only [List.map_cons, sumL, List.length_cons, this, h3]
    grind
theorem hinges_zero {t : Rat} : ∀ {xs : List Rat}, (∀ x ∈ xs, x ≤ t) → hinges t xs = 0
  | [], _ => rfl
  | x :: xs, h => by
    have h1 := hinges_zero (t := t) (xs := xs) fun y hy => h y (List.mem_cons_of_mem _ hy)
    have h2 := h x List.mem_cons_self
    unfold hinges at h1 ⊢
    have h3 : hinge t x = 0 := by unfold hinge; split <;> grind
    simp only [List.map_cons, sumL, h3, h1]
    grind
/-- falling -/
def Falling (xs : List Rat) : Prop := xs.Pairwise fun x y => y ≤ x
/-- P leads Q: the heads of their falling orders -/
def Leads (P Q : List Rat) : Prop := ∀ k, sumL (Q.take k) ≤ sumL (P.take k)
theorem leads_of {P Q : List Rat} (fP : Falling P) (hl : Q.length = P.length) (h : ∀ t, hinges t Q ≤ hinges t P) (hs : sumL Q = sumL P) : Leads P Q := by
  intro k
  by_cases hk : k < P.length
  · have hk' : k < Q.length := by omega
    cases k with
    | zero => simp only [List.take_zero]; exact Rat.le_refl
    | succ k =>
      have hk2 : k < P.length := by omega
      have hh := h P[k]
      -- P: heads above, tails below
      have e1 : hinges P[k] P = sumL (P.take (k + 1)) - ((k + 1 : Nat) : Rat) * P[k] := by
        have sp : hinges P[k] P = hinges P[k] (P.take (k + 1)) + hinges P[k] (P.drop (k + 1)) := by rw [← hinges_append, List.take_append_drop]
        rw [sp, hinges_eq, hinges_zero]
        · rw [List.length_take, Nat.min_eq_left (by omega)]; grind
        · intro x hx
          obtain ⟨i, hi, rfl⟩ := List.mem_iff_getElem.mp hx
          rw [List.getElem_drop]
          exact List.pairwise_iff_getElem.mp fP k (k + 1 + i) hk2 (by rw [List.length_drop] at hi; omega) (by omega)
        · intro x hx
          obtain ⟨i, hi, rfl⟩ := List.mem_iff_getElem.mp hx
          rw [List.getElem_take]
          rw [List.length_take] at hi
          by_cases c : i = k
          · subst c; exact Rat.le_refl
          · exact List.pairwise_iff_getElem.mp fP i k (by omega) hk2 (by omega)
      have e2 : sumL (Q.take (k + 1)) - ((k + 1 : Nat) : Rat) * P[k] ≤ hinges P[k] Q := by
        have sp : hinges P[k] Q = hinges P[k] (Q.take (k + 1)) + hinges P[k] (Q.drop (k + 1)) := by rw [← hinges_append, List.take_append_drop]
        rw [sp]
        have := hinges_nn P[k] (Q.drop (k + 1))
        have h3 := hinges_ge P[k] (Q.take (k + 1))
        rw [List.length_take, Nat.min_eq_left (by omega)] at h3
        grind
      grind
  · rw [List.take_of_length_le (by omega), List.take_of_length_le (by omega), hs]
    exact Rat.le_refl
end LC

/-! CM4 -/
/-! putting into a falling row -/
namespace LC
theorem falling_insert {ord : List Nat} {f : Nat → Rat} {i p : Nat} (hF : Falling (ord.map f)) (hp : p ≤ ord.length) (h1 : ∀ j, (h : j < p) → ∀ h2 : j < ord.length, f i ≤ f ord[j]) (h2 : ∀ h : p < ord.length, f ord[p] ≤ f i) :
    Falling ((ord.take p ++ i :: ord.drop p).map f) := by
  unfold Falling at *
  rw [List.map_append, List.map_cons, List.pairwise_append]
  have sp : (ord.take p ++ ord.drop p).map f = ord.map f := by rw [List.take_append_drop]
  rw [← sp, List.map_append, List.pairwise_append] at hF
  obtain ⟨f1, f2, f3⟩ := hF
  refine ⟨f1, List.pairwise_cons.mpr ⟨fun y hy => ?_, f2⟩, fun x hx y hy => ?_⟩
  · by_cases c : p < ord.length
    · rw [List.drop_eq_getElem_cons c, List.map_cons] at hy f2
      have hh := h2 c
      rcases List.mem_cons.mp hy with rfl | hy
      · exact hh
      · exact Rat.le_trans ((List.pairwise_cons.mp f2).1 y hy) hh
    · rw [List.drop_eq_nil_of_le (by omega)] at hy; cases hy
  · have hx' : f i ≤ x := by
      obtain ⟨z, hz, rfl⟩ := List.mem_map.mp hx
      obtain ⟨j, hj, rfl⟩ := List.mem_iff_getElem.mp hz
      rw [List.length_take] at hj
      rw [List.getElem_take]
      exact h1 j (by omega) (by omega)
    rcases List.mem_cons.mp hy with rfl | hy
    · exact hx'
    · exact f3 x hx y hy
theorem perm_insert {ord : List Nat} {i p : Nat} (h : ord.Perm (List.range i)) : (ord.take p ++ i :: ord.drop p).Perm (List.range (i + 1)) := by
  rw [List.range_succ]
  have h1 : (ord.take p ++ i :: ord.drop p).Perm (i :: (ord.take p ++ ord.drop p)) := List.perm_middle
  rw [List.take_append_drop] at h1
  exact h1.trans ((h.cons i).trans (List.perm_append_comm (l₁ := [i])))
end LC

/-! CM5 -/
/-! evening out: what one levelling does to the leads -/
namespace LC
/-- the leads up to k -/
def leadUp (d : Nat → Rat) (k : Nat) : Rat := sumTo d k
theorem sumTo_upd (d : Nat → Rat) (g : Nat) (x : Rat) : ∀ n, sumTo (fun j => if j = g then d j + x else d j) n = sumTo d n + if g < n then x else 0
  | 0 => by simp only [sumTo]; grind
  | n + 1 => by
    simp only [sumTo, sumTo_upd d g x n]
    by_cases h1 : g < n
    · have h2 : ¬ n = g := by omega
      have h3 : g < n + 1 := by omega
      simp only [h1, h2, h3, if_true, if_false]; grind
    · by_cases h2 : n = g
      · have h3 : g < n + 1 := by omega
        simp only [h1, h2, h3, if_true, if_false]
        rw [if_neg (by omega)]; grind
      · have h3 : ¬ g < n + 1 := by omega
        simp only [h1, h2, h3, if_false]; grind
/-- between g and t nothing is owed: the leads there are at least what g has too much -/
theorem lead_mid {d : Nat → Rat} {g : Nat} (h : ∀ k, 0 ≤ sumTo d k) : ∀ {k : Nat}, g < k → (∀ j, g < j → j < k → d j = 0) → d g ≤ sumTo d k
  | 0, hk, _ => by omega
  | k + 1, hk, z => by
    by_cases c : k = g
    · subst c
      have := h k
      simp only [sumTo]; grind
    · have := lead_mid h (show g < k by omega) fun j a b => z j a (by omega)
      have := z k (by omega) (by omega)
      simp only [sumTo]; grind
/-- a levelling of x from g to t keeps all leads -/
theorem lead_keep {d : Nat → Rat} {g t : Nat} {x : Rat} (h : ∀ k, 0 ≤ sumTo d k) (hgt : g < t) (hx : x ≤ d g) (h0 : 0 ≤ x) (z : ∀ j, g < j → j < t → d j = 0) (k : Nat) :
    0 ≤ sumTo (fun j => if j = t then (if j = g then d j + -x else d j) + x else if j = g then d j + -x else d j) k := by
  rw [sumTo_upd (fun j => if j = g then d j + -x else d j) t x k, sumTo_upd d g (-x) k]
  by_cases c1 : g < k
  · by_cases c2 : t < k
    · rw [if_pos c1, if_pos c2]; have := h k; grind
    · rw [if_pos c1, if_neg c2]
      have := lead_mid h c1 fun j a b => z j a (by omega)
      grind
  · rw [if_neg c1, if_neg (by omega)]; have := h k; grind
/-- who lacks has one before him with too much -/
theorem lead_giver {d : Nat → Rat} (h : ∀ k, 0 ≤ sumTo d k) {t : Nat} (ht : d t < 0) (z : ∀ j, j < t → d j = 0) : False := by
  have e : ∀ k, k ≤ t → sumTo d k = 0 := fun k => by
    induction k with
    | zero => intro _; rfl
    | succ k ih => intro hk; simp only [sumTo, ih (by omega), z k (by omega)]; grind
  have := h (t + 1)
  simp only [sumTo, e t (Nat.le_refl _)] at this
  grind
end LC

/-! CM6 -/
/-! how many places differ -/
namespace LC
open Classical in
noncomputable def cntNe (d : Nat → Rat) : Nat → Nat
  | 0 => 0
  | n + 1 => cntNe d n + if d n = 0 then 0 else 1
theorem cnt_le (d : Nat → Rat) : ∀ n, cntNe d n ≤ n
  | 0 => Nat.le_refl _
  | n + 1 => by
    have := cnt_le d n
    simp only [cntNe]; split <;> omega
theorem cnt_mono {d e : Nat → Rat} : ∀ {n : Nat}, (∀ j, j < n → d j = 0 → e j = 0) → cntNe e n ≤ cntNe d n
  | 0, _ => Nat.le_refl _
  | n + 1, h => by
    have := cnt_mono (n := n) fun j hj => h j (by omega)
    have := h n (by omega)
    simp only [cntNe]
    by_cases c : d n = 0
    · rw [if_pos c, if_pos (this c)]; omega
    · rw [if_neg c]; split <;> omega
theorem cnt_lt {d e : Nat → Rat} : ∀ {n k : Nat}, (∀ j, j < n → d j = 0 → e j = 0) → k < n → d k ≠ 0 → e k = 0 → cntNe e n < cntNe d n
  | 0, k, _, hk, _, _ => by omega
  | n + 1, k, h, hk, a, b => by
    by_cases c : k = n
    · subst c
      have := cnt_mono (d := d) (e := e) (n := k) fun j hj => h j (by omega)
      simp only [cntNe]
      rw [if_pos b, if_neg a]; omega
    · have := cnt_lt (d := d) (e := e) (n := n) (k := k) (fun j hj => h j (by omega)) (by omega) a b
      have := h n (by omega)
      simp only [cntNe]
      by_cases c2 : d n = 0
      · rw [if_pos c2, if_pos (this c2)]; omega
      · rw [if_neg c2]; split <;> omega
end LC

/-! CM7 -/
/-! sums that are nought -/
namespace LC
theorem sum_zero_of_nn {d : Nat → Rat} : ∀ {n : Nat}, (∀ j, j < n → 0 ≤ d j) → sumTo d n = 0 → ∀ j, j < n → d j = 0
  | 0, _, _, j, hj => by omega
  | n + 1, h, e, j, hj => by
    have p : ∀ k, k ≤ n → 0 ≤ sumTo d k := fun k => by
      induction k with
      | zero => intro _; exact Rat.le_refl
      | succ k ih => intro hk; have := ih (by omega); have := h k (by omega); simp only [sumTo]; grind
    have a := p n (Nat.le_refl _)
    have b := h n (by omega)
    simp only [sumTo] at e
    have e1 : sumTo d n = 0 := by grind
    by_cases c : j = n
    · subst c; grind
    · exact sum_zero_of_nn (fun j hj => h j (by omega)) e1 j (by omega)
theorem sum_tail {d : Nat → Rat} {n : Nat} (h : ∀ j, n ≤ j → d j = 0) : ∀ k, n ≤ k → sumTo d k = sumTo d n := fun k => by
  induction k with
  | zero => intro hk; rw [Nat.le_zero.mp hk]
  | succ k ih =>
    intro hk
    by_cases c : n = k + 1
    · rw [c]
    · simp only [sumTo, ih (by omega), h k (by omega)]; grind
end LC

/-! CM8 -/
/-! greater works, no lesser speeds -/
namespace LC
theorem argmin (e : Nat → Rat) : ∀ n : Nat, ∃ i, i ≤ n ∧ (∀ j, j ≤ n → e i ≤ e j) ∧ ∀ j, j < i → e i < e j
  | 0 => ⟨0, Nat.le_refl _, fun j hj => by rw [Nat.le_zero.mp hj]; exact Rat.le_refl, fun j hj => by omega⟩
  | n + 1 => by
    obtain ⟨i, h1, h2, h3⟩ := argmin e n
    by_cases c : e (n + 1) < e i
    · refine ⟨n + 1, Nat.le_refl _, fun j hj => ?_, fun j hj => ?_⟩
      · by_cases c2 : j = n + 1
        · subst c2; exact Rat.le_refl
        · have := h2 j (by omega); grind
      · have := h2 j (by omega); grind
    · refine ⟨i, by omega, fun j hj => ?_, h3⟩
      by_cases c2 : j = n + 1
      · subst c2; exact Rat.not_lt.mp c
      · exact h2 j (by omega)
theorem run_end {E : Nat → Rat} {n a : Nat} {m : Rat} (hm : m < 0) (hmin : ∀ j, j < n → m ≤ E (j + 1) - E j)
    (h : ∀ b, a < b → b ≤ n → (∀ b', b = b' + 1 → b' + 1 < n → E (b' + 1) - E b' < E (b' + 2) - E (b' + 1)) → E a ≤ E b) : ∀ t b, n - (b + 1) = t → b + 1 ≤ n → a ≤ b → E (b + 1) < E a → E (b + 1) - E b = m → False
  | 0, b, h0, h1, h2, h3, h4 => by
    have := h (b + 1) (by omega) h1 (fun b' e hl => by omega)
    grind
  | t + 1, b, h0, h1, h2, h3, h4 => by
    by_cases c : E (b + 1) - E b < E (b + 2) - E (b + 1)
    · have := h (b + 1) (by omega) h1 (fun b' e hl => by
        have : b' = b := by omega
        subst this; exact c)
      grind
    · have := hmin (b + 1) (by omega)
      exact run_end hm hmin h t (b + 1) (by omega) (by omega) (by omega) (by grind) (by grind)
/-- where a row's steps come to fall or rise it is no lower later: then it never falls -/
theorem min_run {E : Nat → Rat} {n : Nat} (h : ∀ a b, a < b → b ≤ n → (∀ a', a = a' + 1 → E (a' + 2) - E (a' + 1) < E (a' + 1) - E a') → (∀ b', b = b' + 1 → b' + 1 < n → E (b' + 1) - E b' < E (b' + 2) - E (b' + 1)) → E a ≤ E b) : ∀ k, k < n → E k ≤ E (k + 1) := by
  intro k hk
  obtain ⟨i, h1, h2, h3⟩ := argmin (fun j => E (j + 1) - E j) (n - 1)
  have hmin : ∀ j, j < n → E (i + 1) - E i ≤ E (j + 1) - E j := fun j hj => h2 j (by omega)
  have hki := hmin k hk
  apply Decidable.byContradiction
  intro c
  have hm : E (i + 1) - E i < 0 := by grind
  refine run_end (E := E) (n := n) (a := i) hm hmin (fun b hb hbn hh => h i b hb hbn (fun a' e => ?_) hh) _ i rfl (by omega) (Nat.le_refl _) (by grind) rfl
  subst e
  exact h3 a' (by omega)
section
variable {lo hi lo' hi' R R' : Nat → Rat} {n : Nat}
theorem mono_le {f : Nat → Rat} (h : ∀ k, k < n → f k ≤ f (k + 1)) : ∀ a b, a ≤ b → b ≤ n → f a ≤ f b := fun a b => by
  induction b with
  | zero => intro h1 _; rw [Nat.le_zero.mp h1]; exact Rat.le_refl
  | succ b ih =>
    intro h1 h2
    by_cases c : a = b + 1
    · subst c; exact Rat.le_refl
    · exact Rat.le_trans (ih (by omega) (by omega)) (h b (by omega))
/-- a taut row in rising bounds rises -/
theorem taut_rises (T : Taut lo hi n R) (m : ∀ a b, a ≤ b → b ≤ n → lo a ≤ lo b) (t0 : lo 0 = hi 0) : ∀ k, k < n → R k ≤ R (k + 1) := by
  refine min_run fun a b hab hbn h1 h2 => ?_
  have i1 := T.inn b hbn
  have i2 := m a b (by omega) hbn
  cases a with
  | zero =>
    have := T.inn 0 (by omega)
    grind
  | succ a =>
    have := T.dn a (by omega) (h1 a rfl)
    grind
/-- greater works -/
theorem works_mono (T : Taut lo hi n R) (T' : Taut lo' hi' n R') (t0 : lo 0 = hi 0) (t0' : lo' 0 = hi' 0) (tn : lo n = hi n) (rises : ∀ a b, a ≤ b → b ≤ n → R' a ≤ R' b)
    (dL : ∀ a b, a ≤ b → b ≤ n → lo' a - lo a ≤ lo' b - lo b) (dH : ∀ a b, a ≤ b → b ≤ n → hi' a - hi a ≤ hi' b - hi b) (dLH : ∀ a, a ≤ n → lo' a - lo a ≤ hi' a - hi a)
    (hc : ∀ a b, a < b → b ≤ n → lo b - hi a ≤ lo' b - hi' a ∨ lo b ≤ hi a) : ∀ k, k < n → R (k + 1) - R k ≤ R' (k + 1) - R' k := by
  intro k hk
  have := min_run (E := fun k => R' k - R k) (n := n) (fun a b hab hbn h1 h2 => ?_) k hk
  · show R (k + 1) - R k ≤ R' (k + 1) - R' k
    have e : R' k - R k ≤ R' (k + 1) - R (k + 1) := this
    grind
  show R' a - R a ≤ R' b - R b
  have ia := T.inn a (by omega)
  have ia' := T'.inn a (by omega)
  have ib := T.inn b hbn
  have ib' := T'.inn b hbn
  have rr := rises a b (by omega) hbn
  have d1 := dL a b (by omega) hbn
  have d2 := dH a b (by omega) hbn
  have d3 := dLH a (by omega)
  have d4 := dLH b hbn
  have cc := hc a b hab hbn
  have A : R' a = lo' a ∨ R a = hi a := by
    cases a with
    | zero => left; grind
    | succ a =>
      have h1' : R' (a + 2) - R (a + 2) - (R' (a + 1) - R (a + 1)) < R' (a + 1) - R (a + 1) - (R' a - R a) := h1 a rfl
      by_cases c : R' (a + 2) - R' (a + 1) < R' (a + 1) - R' a
      · exact .inl (T'.dn a (by omega) c)
      · exact .inr (T.up a (by omega) (by grind))
  have B : R' b = hi' b ∨ R b = lo b := by
    cases b with
    | zero => omega
    | succ b =>
      by_cases c0 : b + 1 = n
      · right; rw [c0] at ib ⊢; grind
      have h2' : R' (b + 1) - R (b + 1) - (R' b - R b) < R' (b + 2) - R (b + 2) - (R' (b + 1) - R (b + 1)) := h2 b rfl (by omega)
      by_cases c : R' (b + 1) - R' b < R' (b + 2) - R' (b + 1)
      · exact .inl (T'.up b (by omega) c)
      · exact .inr (T.dn b (by omega) (by grind))
  rcases A with A | A <;> rcases B with B | B <;> grind
end
/-! ### the bounds of jobs -/
section
variable {α : Type} (ar du : α → Nat)
def jLo (w : α → Rat) (js : List α) (k : Nat) : Rat := sumL (js.map fun j => if du j ≤ k then w j else 0)
def jHi (w : α → Rat) (js : List α) (k : Nat) : Rat := sumL (js.map fun j => if ar j < k then w j else 0)
variable {ar du}
theorem sumL_le {f g : α → Rat} : ∀ {js : List α}, (∀ j ∈ js, f j ≤ g j) → sumL (js.map f) ≤ sumL (js.map g)
  | [], _ => Rat.le_refl
  | j :: js, h => by
    have h1 := h j List.mem_cons_self
    have h2 := sumL_le (js := js) (f := f) (g := g) fun y hy => h y (List.mem_cons_of_mem _ hy)
    simp only [List.map_cons, sumL]; grind
theorem sumL_sub (f g : α → Rat) : ∀ js : List α, sumL (js.map f) - sumL (js.map g) = sumL (js.map fun j => f j - g j)
  | [] => by simp only [List.map_nil, sumL]; grind
  | j :: js => by
    have := sumL_sub f g js
    simp only [List.map_cons, sumL]; grind
theorem sumL_add (f g : α → Rat) : ∀ js : List α, sumL (js.map f) + sumL (js.map g) = sumL (js.map fun j => f j + g j)
  | [] => by simp only [List.map_nil, sumL]; grind
  | j :: js => by
    have := sumL_add f g js
    simp only [List.map_cons, sumL]; grind
theorem sumL_congr {f g : α → Rat} {js : List α} (h : ∀ j ∈ js, f j = g j) : sumL (js.map f) = sumL (js.map g) := by
  have : js.map f = js.map g := List.map_congr_left h
  rw [this]
/-- one behind the other -/
def Fifo (ar du : α → Nat) (js : List α) : Prop := js.Pairwise fun i j => ar i ≤ ar j ∧ du i ≤ du j
variable {w w' : α → Rat} {js : List α}
theorem jLo_mono (hw : ∀ j ∈ js, 0 ≤ w j) {a b : Nat} (h : a ≤ b) : jLo du w js a ≤ jLo du w js b := sumL_le fun j hj => by
  have := hw j hj
  by_cases c : du j ≤ a
  · rw [if_pos c, if_pos (by omega)]; exact Rat.le_refl
  · rw [if_neg c]; split <;> grind
theorem jHi_mono (hw : ∀ j ∈ js, 0 ≤ w j) {a b : Nat} (h : a ≤ b) : jHi ar w js a ≤ jHi ar w js b := sumL_le fun j hj => by
  have := hw j hj
  by_cases c : ar j < a
  · rw [if_pos c, if_pos (by omega)]; exact Rat.le_refl
  · rw [if_neg c]; split <;> grind
theorem jLo_Hi (hw : ∀ j ∈ js, 0 ≤ w j) (hd : ∀ j ∈ js, ar j < du j) (a : Nat) : jLo du w js a ≤ jHi ar w js a := sumL_le fun j hj => by
  have := hw j hj
  have := hd j hj
  by_cases c : du j ≤ a
  · rw [if_pos c, if_pos (by omega)]; exact Rat.le_refl
  · rw [if_neg c]; split <;> grind
theorem jLo_diff (k : Nat) : jLo du w' js k - jLo du w js k = jLo du (fun j => w' j - w j) js k := by
  unfold jLo; rw [sumL_sub]
  exact sumL_congr fun j _ => by split <;> grind
theorem jHi_diff (k : Nat) : jHi ar w' js k - jHi ar w js k = jHi ar (fun j => w' j - w j) js k := by
  unfold jHi; rw [sumL_sub]
  exact sumL_congr fun j _ => by split <;> grind
theorem jLo_zero (hd : ∀ j ∈ js, ar j < du j) : jLo du w js 0 = 0 ∧ jHi ar w js 0 = 0 := by
  have z : sumL (js.map fun _ => (0 : Rat)) = 0 := by
    induction js with
    | nil => rfl
    | cons j js ih =>
      have := ih fun x hx => hd x (List.mem_cons_of_mem _ hx)
      simp only [List.map_cons, sumL, this]; grind
  refine ⟨?_, ?_⟩
  · rw [← z]; exact sumL_congr fun j hj => by have := hd j hj; rw [if_neg (by omega)]
  · rw [← z]; exact sumL_congr fun j hj => by rw [if_neg (by omega)]
theorem jLo_all {n : Nat} (hd : ∀ j ∈ js, ar j < du j ∧ du j ≤ n) : jLo du w js n = sumL (js.map w) ∧ jHi ar w js n = sumL (js.map w) := by
  refine ⟨?_, ?_⟩
  · exact sumL_congr fun j hj => by have := hd j hj; rw [if_pos (by omega)]
  · exact sumL_congr fun j hj => by have := hd j hj; rw [if_pos (by omega)]
theorem job_split (F : Fifo ar du js) (a b : Nat) : (∀ j ∈ js, ar j < a → du j ≤ b) ∨ (∀ j ∈ js, du j ≤ b → ar j < a) := by
  by_cases c : ∃ j ∈ js, ar j < a ∧ ¬ du j ≤ b
  · right
    obtain ⟨j, hj, c1, c2⟩ := c
    intro i hi hd
    apply Decidable.byContradiction
    intro c3
    have key : ∀ {js : List α}, Fifo ar du js → j ∈ js → i ∈ js → i = j ∨ (ar i ≤ ar j ∧ du i ≤ du j) ∨ (ar j ≤ ar i ∧ du j ≤ du i) := by
      intro js F
      induction F with
      | nil => intro h; cases h
      | cons h _ ih =>
        intro h1 h2
        rcases List.mem_cons.mp h1 with e1 | h1
        · rcases List.mem_cons.mp h2 with e2 | h2
          · exact .inl (by rw [e1, e2])
          · exact .inr (.inr (by rw [e1]; exact h i h2))
        · rcases List.mem_cons.mp h2 with e2 | h2
          · exact .inr (.inl (by rw [e2]; exact h j h1))
          · exact ih h1 h2
    rcases key F hj hi with e | ⟨h1, h2⟩ | ⟨h1, h2⟩
    · rw [e] at hd; exact c2 hd
    · omega
    · omega
  · left
    intro j hj h1
    apply Decidable.byContradiction
    intro h2
    exact c ⟨j, hj, h1, h2⟩
theorem job_hc (F : Fifo ar du js) (hw : ∀ j ∈ js, 0 ≤ w j) (hww : ∀ j ∈ js, w j ≤ w' j) (a b : Nat) : jLo du w js b - jHi ar w js a ≤ jLo du w' js b - jHi ar w' js a ∨ jLo du w js b ≤ jHi ar w js a := by
  rcases job_split F a b with h | h
  · left
    unfold jLo jHi
    rw [sumL_sub, sumL_sub]
    refine sumL_le fun j hj => ?_
    have h1 := hww j hj
    have h2 := h j hj
    by_cases c1 : ar j < a
    · rw [if_pos (h2 c1), if_pos (h2 c1), if_pos c1, if_pos c1]; grind
    · rw [if_neg c1, if_neg c1]; split <;> grind
  · right
    refine sumL_le fun j hj => ?_
    have h1 := hw j hj
    by_cases c1 : du j ≤ b
    · rw [if_pos c1, if_pos (h j hj c1)]; exact Rat.le_refl
    · rw [if_neg c1]; split <;> grind
/-- greater works, no lesser speeds -/
theorem jobs_mono {n : Nat} {R R' : Nat → Rat} (F : Fifo ar du js) (hw : ∀ j ∈ js, 0 ≤ w j) (hww : ∀ j ∈ js, w j ≤ w' j) (hd : ∀ j ∈ js, ar j < du j ∧ du j ≤ n) (T : Taut (jLo du w js) (jHi ar w js) n R) (T' : Taut (jLo du w' js) (jHi ar w' js) n R') :
    ∀ k, k < n → R (k + 1) - R k ≤ R' (k + 1) - R' k := by
  have hw' : ∀ j ∈ js, 0 ≤ w' j := fun j hj => Rat.le_trans (hw j hj) (hww j hj)
  have hD : ∀ j ∈ js, 0 ≤ w' j - w j := fun j hj => by have := hww j hj; grind
  have z := jLo_zero (w := w) (ar := ar) (du := du) fun j hj => (hd j hj).1
  have z' := jLo_zero (w := w') (ar := ar) (du := du) fun j hj => (hd j hj).1
  have e := jLo_all (w := w) (ar := ar) (du := du) hd
  refine works_mono T T' (by rw [z.1, z.2]) (by rw [z'.1, z'.2]) (by rw [e.1, e.2]) ?_ (fun a b hab _ => ?_) (fun a b hab _ => ?_) (fun a _ => ?_) (fun a b _ _ => job_hc F hw hww a b)
  · exact mono_le (taut_rises T' (fun a b hab _ => jLo_mono hw' hab) (by rw [z'.1, z'.2]))
  · rw [jLo_diff, jLo_diff]; exact jLo_mono hD hab
  · rw [jHi_diff, jHi_diff]; exact jHi_mono hD hab
  · rw [jLo_diff, jHi_diff]; exact jLo_Hi hD (fun j hj => (hd j hj).1) a
end
end LC

/-! DM1 -/
set_option exponentiation.threshold 100
namespace DL
open PySem PySem.Spec PyProof.Rows L2

/-! ## reckoning with cores -/
abbrev vI (i : Int) : Sl := .fd (.val (.int i))
abbrev vD (d : D) : Sl := .fd (.val d)
def sp_common : Spec := fun ss R => ∃ a b : Int, ss = [vI a, vI b] ∧ R (.val (.int (Int.gcd a b))) ss
theorem b_common (Γ : Gam) : Body Γ 2 2 c_common sp_common := ⟨by
  rintro _ R ⟨a, b, rfl, h⟩
  refine ⟨rfl, by simp, ?_⟩
  show wpSs _ _ [vI a, vI b] _
  simp [c_common]
  rw [q_swhl]
  refine ⟨fun m ρ => ∃ x y : Nat, ρ = [vI x, vI y] ∧ m = y ∧ Nat.gcd x y = Int.gcd a b, ⟨_, _, _, rfl, rfl, rfl⟩, ?_⟩
  rintro y ρ ⟨x, _, rfl, rfl, hg⟩
  simp [deq_int, okD_int]
  by_cases hy : y = 0
  · subst hy
    simp at hg
    subst hg
    simpa using h
  · have hy' : ¬ ((y : Int) = 0) := by omega
    simp [hy, hy']
    refine ⟨x % y, Nat.mod_lt _ (Nat.pos_of_ne_zero hy), y, x % y, ⟨rfl, ?_⟩, rfl, ?_⟩
    · rw [Int.fmod_eq_emod_of_nonneg _ (by omega)]; rfl
    · rw [← hg, Nat.gcd_comm x y, Nat.gcd_comm y (x % y)]
      exact (Nat.gcd_rec y x).symm⟩
/-- numbers -/
def nD (q : Rat) : D := .tup [.int q.num, .int q.den]
abbrev vN (q : Rat) : Sl := .fd (.val (nD q))
def sp_number : Spec := fun ss R => ∃ a b : Int, ss = [vI a, vI b] ∧ b ≠ 0 ∧ b.natAbs < 2 ^ 9000 ∧ R (.val (nD (Rat.divInt a b))) ss
def G_number : Gam := { fn := [("common", sp_common)] }
theorem fdiv_exact {a b : Int} (hb : b ≠ 0) (h : b ∣ a) : a.fdiv b = a / b := by
  obtain ⟨c, rfl⟩ := h
  rw [Int.mul_fdiv_cancel_left _ hb, Int.mul_ediv_cancel_left _ hb]
theorem b_number : Body G_number 3 2 c_number sp_number := ⟨by
  rintro _ R ⟨a, b, rfl, hb, hs, h⟩
  refine ⟨rfl, by simp, ?_⟩
  show wpSs _ _ [vI a, vI b, .non] _
  simp [c_number, deq_int, okD_int, hb, G_number, sp_common]
  have hg : (Int.gcd a b : Int) ≠ 0 := by
    intro z
    have : Int.gcd a b = 0 := by omega
    exact hb (Int.gcd_eq_zero_iff.mp this).2
  have hga : (Int.gcd a b : Int) ∣ a := Int.gcd_dvd_left ..
  have hgb : (Int.gcd a b : Int) ∣ b := Int.gcd_dvd_right ..
  have hd : ∀ j : Int, j.natAbs = Int.gcd a b → j ≠ 0 → divOk j := fun j hj h0 => ⟨h0, 9000, by
    rw [hj]
    exact Nat.lt_of_le_of_lt (Nat.le_of_dvd (Int.natAbs_pos.mpr hb) (Int.gcd_dvd_natAbs_right ..)) hs, Nat.le_refl _, by decide⟩
  have e1 : (Rat.divInt a b).num = b.sign * a / (Int.gcd a b : Int) := by rw [Rat.num_divInt, Int.gcd_comm]
  have e2 : ((Rat.divInt a b).den : Int) = (b.natAbs : Int) / (Int.gcd a b : Int) := by rw [Rat.den_divInt, if_neg hb, Int.gcd_comm]; rfl
  refine ⟨a, b, ⟨rfl, rfl⟩, ?_⟩
  generalize hG : (Int.gcd a b : Int) = g at *
  unfold nD at h
  rw [e1, e2] at h
  obtain ⟨a', rfl⟩ := hga
  obtain ⟨b', rfl⟩ := hgb
  split
  · rename_i hlt
    refine ⟨hd _ (by omega) (by omega), ?_⟩
    rw [fdiv_exact (by omega) (Int.neg_dvd.mpr (Int.dvd_mul_right ..)), fdiv_exact (by omega) (Int.neg_dvd.mpr (Int.dvd_mul_right ..)), Int.ediv_neg, Int.ediv_neg, Int.mul_ediv_cancel_left _ hg, Int.mul_ediv_cancel_left _ hg]
    have z1 : (g * b').sign * (g * a') / g = -a' := by
      rw [Int.sign_eq_neg_one_of_neg hlt, show -1 * (g * a') = g * (-a') by rw [Int.mul_neg]; omega, Int.mul_ediv_cancel_left _ hg]
    have z2 : (((g * b').natAbs : Nat) : Int) / g = -b' := by
      rw [show (((g * b').natAbs : Nat) : Int) = g * (-b') by rw [Int.mul_neg]; omega, Int.mul_ediv_cancel_left _ hg]
    rw [z1, z2] at h
    exact h
  · rename_i hlt
    refine ⟨hd _ (by omega) hg, ?_⟩
    rw [fdiv_exact hg (Int.dvd_mul_right ..), fdiv_exact hg (Int.dvd_mul_right ..), Int.mul_ediv_cancel_left _ hg, Int.mul_ediv_cancel_left _ hg]
    have z1 : (g * b').sign * (g * a') / g = a' := by
      rw [Int.sign_eq_one_of_pos (by omega), Int.one_mul, Int.mul_ediv_cancel_left _ hg]
    have z2 : (((g * b').natAbs : Nat) : Int) / g = b' := by
      rw [show (((g * b').natAbs : Nat) : Int) = g * b' by omega, Int.mul_ediv_cancel_left _ hg]
    rw [z1, z2] at h
    exact h⟩
/-- not too long -/
def sm (q : Rat) : Prop := q.num.natAbs < 2 ^ 2000 ∧ q.den < 2 ^ 2000
theorem mulOk_lt {i j : Int} (h1 : i.natAbs < 2 ^ 9000) (h2 : j.natAbs < 2 ^ 9000) : mulOk i j := ⟨9000, 9000, h1, h2, by decide⟩
theorem lt_2k {n : Nat} (h : n < 2 ^ 2000) : n < 2 ^ 9000 := Nat.lt_of_lt_of_le h (Nat.pow_le_pow_right (by decide) (by decide))
theorem mul_2k {m n : Nat} (h1 : m < 2 ^ 2000) (h2 : n < 2 ^ 2000) : m * n < 2 ^ 4000 := by
  have := Nat.mul_lt_mul'' h1 h2
  rwa [← Nat.pow_add] at this
theorem lt_4k {n : Nat} (h : n < 2 ^ 4000) : n < 2 ^ 9000 := Nat.lt_of_lt_of_le h (Nat.pow_le_pow_right (by decide) (by decide))
theorem sm.nn {p q : Rat} (h1 : sm p) (h2 : sm q) : mulOk p.num q.num := mulOk_lt (lt_2k h1.1) (lt_2k h2.1)
theorem sm.nd {p q : Rat} (h1 : sm p) (h2 : sm q) : mulOk p.num q.den := mulOk_lt (lt_2k h1.1) (lt_2k h2.2)
theorem sm.dn {p q : Rat} (h1 : sm p) (h2 : sm q) : mulOk p.den q.num := mulOk_lt (lt_2k h1.2) (lt_2k h2.1)
theorem sm.dd {p q : Rat} (h1 : sm p) (h2 : sm q) : mulOk p.den q.den := mulOk_lt (lt_2k h1.2) (lt_2k h2.2)
theorem den_ne (q : Rat) : (q.den : Int) ≠ 0 := by have := q.den_nz; omega
theorem den_pos (q : Rat) : 0 < (q.den : Int) := by have := q.den_nz; omega
theorem add_dd (p q : Rat) : Rat.divInt (p.num * q.den + q.num * p.den) (p.den * q.den) = p + q := by
  rw [← Rat.divInt_add_divInt _ _ (den_ne p) (den_ne q), Rat.num_divInt_den, Rat.num_divInt_den]
theorem sub_dd (p q : Rat) : Rat.divInt (p.num * q.den - q.num * p.den) (p.den * q.den) = p - q := by
  rw [← Rat.divInt_sub_divInt _ _ (den_ne p) (den_ne q), Rat.num_divInt_den, Rat.num_divInt_den]
theorem mul_dd (p q : Rat) : Rat.divInt (p.num * q.num) (p.den * q.den) = p * q := by
  rw [← Rat.divInt_mul_divInt, Rat.num_divInt_den, Rat.num_divInt_den]
theorem div_dd (p q : Rat) : Rat.divInt (p.num * q.den) (p.den * q.num) = p / q := by
  rw [← Rat.divInt_mul_divInt, Rat.num_divInt_den, Rat.div_def]
  congr 1
  have := Rat.inv_divInt q.num q.den
  rw [Rat.num_divInt_den] at this
  exact this.symm
theorem num_ne {q : Rat} (h : q ≠ 0) : q.num ≠ 0 := fun z => h (Rat.num_eq_zero.mp z)
@[simp ↓ high, simp high] theorem seq_nD (ρ : Env) (q : Rat) : seqOf ρ (.val (nD q)) = some [.int q.num, .int q.den] := rfl
@[simp ↓ high, simp high] theorem ix_nD0 (ρ : Env) (q : Rat) (Q : QE) : wpIx ρ (.val (nD q)) (.val (.int 0)) Q = Q (.val (.int q.num)) ρ := by
  apply propext
  unfold wpIx
  rw [seq_nD]
  exact ⟨fun ⟨d, h, q⟩ => by cases h; exact q, fun h => ⟨_, rfl, h⟩⟩
@[simp ↓ high, simp high] theorem ix_nD1 (ρ : Env) (q : Rat) (Q : QE) : wpIx ρ (.val (nD q)) (.val (.int 1)) Q = Q (.val (.int q.den)) ρ := by
  apply propext
  unfold wpIx
  rw [seq_nD]
  exact ⟨fun ⟨d, h, q⟩ => by cases h; exact q, fun h => ⟨_, rfl, h⟩⟩
theorem nD_inj {p q : Rat} : nD p = nD q ↔ p = q := by
  refine ⟨fun h => ?_, fun h => by rw [h]⟩
  unfold nD at h
  injection h with h
  injection h with h1 h2
  injection h1 with h1
  injection h2 with h2
  injection h2 with h2
  exact Rat.ext h1 (by omega)
mutual
/-- ints, in tuples and lists -/
def iD : Nat → D → Bool
  | _, .int _ => true
  | 0, _ => false
  | n + 1, .tup ds => iDs n ds
  | n + 1, .lst ds => iDs n ds
  | _, _ => false
def iDs : Nat → List D → Bool
  | _, [] => true
  | n, d :: ds => iD n d && iDs n ds
end
mutual
theorem deq_iff : ∀ {n : Nat} {d e : D}, iD n d = true → iD n e = true → (PyData.eqv (toP d) (toP e) = true ↔ d = e)
  | n, .int i, .int j, _, _ => by
    show PyData.eqv (.int i) (.int j) = true ↔ _
    simp [PyData.eqv]
  | n + 1, .tup ds, .tup es, h1, h2 => by
    show PyData.eqv (.tuple (toPs ds)) (.tuple (toPs es)) = true ↔ _
    simp only [PyData.eqv]
    rw [deqs_iff (n := n) (by simpa [iD] using h1) (by simpa [iD] using h2)]
    simp
  | n + 1, .lst ds, .lst es, h1, h2 => by
    show PyData.eqv (.list (toPs ds)) (.list (toPs es)) = true ↔ _
    simp only [PyData.eqv]
    rw [deqs_iff (n := n) (by simpa [iD] using h1) (by simpa [iD] using h2)]
    simp
  | n + 1, .int i, .tup es, _, _ => by show PyData.eqv (.int i) (.tuple _) = true ↔ _; simp [PyData.eqv]
  | n + 1, .int i, .lst es, _, _ => by show PyData.eqv (.int i) (.list _) = true ↔ _; simp [PyData.eqv]
  | n + 1, .tup es, .int i, _, _ => by show PyData.eqv (.tuple _) (.int i) = true ↔ _; simp [PyData.eqv]
  | n + 1, .lst es, .int i, _, _ => by show PyData.eqv (.list _) (.int i) = true ↔ _; simp [PyData.eqv]
  | n + 1, .tup ds, .lst es, _, _ => by show PyData.eqv (.tuple _) (.list _) = true ↔ _; simp [PyData.eqv]
  | n + 1, .lst ds, .tup es, _, _ => by show PyData.eqv (.list _) (.tuple _) = true ↔ _; simp [PyData.eqv]
  | n, .non, _, h, _ => by cases n <;> simp [iD] at h
  | n, .bl _, _, h, _ => by cases n <;> simp [iD] at h
  | n, .str _, _, h, _ => by cases n <;> simp [iD] at h
  | n, .fn _, _, h, _ => by cases n <;> simp [iD] at h
  | n, _, .non, _, h => by cases n <;> simp [iD] at h
  | n, _, .bl _, _, h => by cases n <;> simp [iD] at h
  | n, _, .str _, _, h => by cases n <;> simp [iD] at h
  | n, _, .fn _, _, h => by cases n <;> simp [iD] at h
  | 0, .tup _, _, h, _ => by simp [iD] at h
  | 0, .lst _, _, h, _ => by simp [iD] at h
  | 0, _, .tup _, _, h => by simp [iD] at h
  | 0, _, .lst _, _, h => by simp [iD] at h
theorem deqs_iff : ∀ {n : Nat} {ds es : List D}, iDs n ds = true → iDs n es = true → (PyData.eqvAll (toPs ds) (toPs es) = true ↔ ds = es)
  | n, [], [], _, _ => by simp [toPs, PyData.eqvAll]
  | n, [], e :: es, _, _ => by simp [toPs, PyData.eqvAll]
  | n, d :: ds, [], _, _ => by simp [toPs, PyData.eqvAll]
  | n, d :: ds, e :: es, h1, h2 => by
    rw [iDs, Bool.and_eq_true] at h1 h2
    simp only [toPs, PyData.eqvAll, Bool.and_eq_true]
    rw [deq_iff (n := n) h1.1 h2.1, deqs_iff (n := n) h1.2 h2.2]
    simp
end
mutual
theorem lay_iD : ∀ {n : Nat} {d : D}, iD n d = true → (toP d).canLay0 = true ∧ (toP d).depth ≤ n + 1 ∧ plain d = true
  | n, .int i, _ => ⟨rfl, by show PyData.depth (.int i) ≤ _; simp [PyData.depth], rfl⟩
  | n + 1, .tup ds, h => by
    obtain ⟨h1, h2, h3⟩ := lays_iD (n := n) (ds := ds) (by simpa [iD] using h)
    refine ⟨by show PyData.canLay0 (.tuple _) = true; simp [PyData.canLay0, h1], ?_, by simp [plain, h3]⟩
    show PyData.depth (.tuple _) ≤ _
    simp only [PyData.depth]; omega
  | n + 1, .lst ds, h => by
    obtain ⟨h1, h2, h3⟩ := lays_iD (n := n) (ds := ds) (by simpa [iD] using h)
    refine ⟨by show PyData.canLay0 (.list _) = true; simp [PyData.canLay0, h1], ?_, by simp [plain, h3]⟩
    show PyData.depth (.list _) ≤ _
    simp only [PyData.depth]; omega
  | n, .non, h => by cases n <;> simp [iD] at h
  | n, .bl _, h => by cases n <;> simp [iD] at h
  | n, .str _, h => by cases n <;> simp [iD] at h
  | n, .fn _, h => by cases n <;> simp [iD] at h
  | 0, .tup _, h => by simp [iD] at h
  | 0, .lst _, h => by simp [iD] at h
theorem lays_iD : ∀ {n : Nat} {ds : List D}, iDs n ds = true → PyData.canLayAll0 (toPs ds) = true ∧ PyData.depthAll (toPs ds) ≤ n + 1 ∧ plains ds = true
  | n, [], _ => ⟨rfl, by simp [toPs, PyData.depthAll], rfl⟩
  | n, d :: ds, h => by
    rw [iDs, Bool.and_eq_true] at h
    obtain ⟨a1, a2, a3⟩ := lay_iD (n := n) h.1
    obtain ⟨b1, b2, b3⟩ := lays_iD (n := n) h.2
    refine ⟨by simp [toPs, PyData.canLayAll0, a1, b1], ?_, by simp [plains, a3, b3]⟩
    simp only [toPs, PyData.depthAll]
    omega
end
theorem okD_of {n : Nat} {d : D} (h : iD n d = true) (hn : n ≤ 60) : okD d := by
  obtain ⟨h1, h2, h3⟩ := lay_iD h
  refine ⟨?_, h3⟩
  unfold SeqAt.shaped
  rw [h1, decide_eq_true (by omega)]; rfl
theorem deq_of {n : Nat} {d e : D} (h1 : iD n d = true) (h2 : iD n e = true) : (deq d e = true ↔ d = e) := deq_iff h1 h2
theorem iD_nD {n : Nat} (q : Rat) : iD (n + 1) (nD q) = true := by simp [nD, iD, iDs]
theorem okD_nD (q : Rat) : okD (nD q) := okD_of (n := 1) (iD_nD q) (by decide)
theorem deq_nD (p q : Rat) : deq (nD p) (nD q) = decide (p = q) := by
  rw [Bool.eq_iff_iff, deq_of (n := 1) (iD_nD p) (iD_nD q), nD_inj]; simp
theorem iDs_map {n : Nat} (f : α → D) (h : ∀ a, iD n (f a) = true) : ∀ l : List α, iDs n (l.map f) = true
  | [] => by simp [iDs]
  | a :: l => by rw [List.map_cons, iDs, h, iDs_map f h l]; rfl
/-- rows -/
def rowD (qs : List Rat) : D := .tup (qs.map nD)
theorem iD_row {n : Nat} (qs : List Rat) : iD (n + 2) (rowD qs) = true := by
  unfold rowD; rw [iD]; exact iDs_map _ (fun q => iD_nD q) qs
theorem map_nD_inj : ∀ {xs ys : List Rat}, xs.map nD = ys.map nD → xs = ys
  | [], [], _ => rfl
  | [], _ :: _, h => by cases h
  | _ :: _, [], h => by cases h
  | x :: xs, y :: ys, h => by
    simp only [List.map_cons, List.cons.injEq] at h
    rw [nD_inj.mp h.1, map_nD_inj h.2]
theorem rowD_inj {p q : List Rat} : rowD p = rowD q ↔ p = q := by
  refine ⟨fun h => ?_, fun h => by rw [h]⟩
  unfold rowD at h
  injection h with h
  exact map_nD_inj h
theorem okD_row (q : List Rat) : okD (rowD q) := okD_of (n := 2) (iD_row q) (by decide)
theorem deq_row (p q : List Rat) : deq (rowD p) (rowD q) = decide (p = q) := by
  rw [Bool.eq_iff_iff, deq_of (n := 2) (iD_row p) (iD_row q), rowD_inj]; simp
def G_num : Gam := { fn := [("number", sp_number)] }
/-- a reckoning with two numbers -/
def sp2 (C : Rat → Rat → Prop) (f : Rat → Rat → D) : Spec := fun ss R => ∃ p q : Rat, ss = [vN p, vN q] ∧ sm p ∧ sm q ∧ C p q ∧ R (.val (f p q)) ss
def sp_added : Spec := sp2 (fun _ _ => True) fun p q => nD (p + q)
def sp_taken : Spec := sp2 (fun _ _ => True) fun p q => nD (p - q)
def sp_parted : Spec := sp2 (fun _ q => q ≠ 0) fun p q => nD (p / q)
def sp_is_less : Spec := sp2 (fun _ _ => True) fun p q => .bl (decide (p < q))
theorem b_added : Body G_num 2 2 c_added sp_added := ⟨by
  rintro _ R ⟨p, q, rfl, hp, hq, _, h⟩
  refine ⟨rfl, by simp, ?_⟩
  show wpSs _ _ [vN p, vN q] _
  simp [c_added, G_num, sp_number]
  refine ⟨hp.nd hq, hq.nd hp, hp.dd hq, _, _, ⟨rfl, rfl⟩, Int.mul_ne_zero (den_ne p) (den_ne q), ?_, by rw [add_dd]; exact h⟩
  rw [Int.natAbs_mul]
  exact lt_4k (mul_2k hp.2 hq.2)⟩
theorem b_taken : Body G_num 2 2 c_taken sp_taken := ⟨by
  rintro _ R ⟨p, q, rfl, hp, hq, _, h⟩
  refine ⟨rfl, by simp, ?_⟩
  show wpSs _ _ [vN p, vN q] _
  simp [c_taken, G_num, sp_number]
  refine ⟨hp.nd hq, hq.nd hp, hp.dd hq, _, _, ⟨rfl, rfl⟩, Int.mul_ne_zero (den_ne p) (den_ne q), ?_, by rw [sub_dd]; exact h⟩
  rw [Int.natAbs_mul]
  exact lt_4k (mul_2k hp.2 hq.2)⟩
theorem b_parted : Body G_num 2 2 c_parted sp_parted := ⟨by
  rintro _ R ⟨p, q, rfl, hp, hq, hz, h⟩
  refine ⟨rfl, by simp, ?_⟩
  show wpSs _ _ [vN p, vN q] _
  simp [c_parted, G_num, sp_number]
  refine ⟨hp.nd hq, hp.dn hq, _, _, ⟨rfl, rfl⟩, Int.mul_ne_zero (den_ne p) (num_ne hz), ?_, by rw [div_dd]; exact h⟩
  rw [Int.natAbs_mul]
  exact lt_4k (mul_2k hp.2 hq.1)⟩
theorem b_is_less (Γ : Gam) : Body Γ 2 2 c_is_less sp_is_less := ⟨by
  rintro _ R ⟨p, q, rfl, hp, hq, _, h⟩
  refine ⟨rfl, by simp, ?_⟩
  show wpSs _ _ [vN p, vN q] _
  simp [c_is_less]
  refine ⟨hp.nd hq, hq.nd hp, ?_⟩
  rw [show decide (p.num * q.den < q.num * p.den) = decide (p < q) from decide_eq_decide.mpr (Rat.lt_iff p q).symm]
  exact h⟩
end DL

/-! DM2 -/
set_option exponentiation.threshold 100
namespace DL
open PySem PySem.Spec PyProof.Rows L2

/-! ## loops -/
section
variable {pls : List (Pl × List D)}
theorem lc_map {α : Type} {step : D → Env → (Option D → Env → Prop) → Prop} {ρ : Env} (g h : α → D) (hst : still pls ρ) : ∀ (xs : List α) (acc : List D) (k : List D → Env → Prop), (∀ x ∈ xs, ∀ K : Option D → Env → Prop, K (some (h x)) ρ → step (g x) ρ K) → k (acc ++ xs.map h) ρ → lcGo pls step (xs.map g) ρ acc k
  | [], acc, k, _, w => ⟨hst, by simpa using w⟩
  | x :: xs, acc, k, hs, w => ⟨hst, hs x List.mem_cons_self _ (lc_map g h hst xs _ k (fun y hy => hs y (List.mem_cons_of_mem _ hy)) (by simpa using w))⟩
theorem lc_filter {α : Type} {step : D → Env → (Option D → Env → Prop) → Prop} {ρ : Env} (g h : α → D) (p : α → Bool) (hst : still pls ρ) : ∀ (xs : List α) (acc : List D) (k : List D → Env → Prop), (∀ x ∈ xs, ∀ K : Option D → Env → Prop, K (if p x = true then some (h x) else none) ρ → step (g x) ρ K) → k (acc ++ (xs.filter p).map h) ρ → lcGo pls step (xs.map g) ρ acc k
  | [], acc, k, _, w => ⟨hst, by simpa using w⟩
  | x :: xs, acc, k, hs, w => ⟨hst, hs x List.mem_cons_self _ (by
      cases hp : p x with
      | true => exact lc_filter g h p hst xs _ k (fun y hy => hs y (List.mem_cons_of_mem _ hy)) (by simpa [hp] using w)
      | false => exact lc_filter g h p hst xs _ k (fun y hy => hs y (List.mem_cons_of_mem _ hy)) (by simpa [hp] using w))⟩
theorem for_go {step : D → Env → (Env → Prop) → Prop} (Inv : Nat → Env → Prop) : ∀ (ds : List D) (j : Nat) (ρ : Env) (k : Env → Prop), Inv j ρ →
    (∀ i d ρ (K : Env → Prop), ds[i]? = some d → Inv (j + i) ρ → still pls ρ ∧ ((∀ ρ', Inv (j + i + 1) ρ' → K ρ') → step d ρ K)) → (∀ ρ, Inv (j + ds.length) ρ → still pls ρ ∧ k ρ) → forGo pls step ds ρ k
  | [], j, ρ, k, h, _, e => e ρ h
  | d :: ds, j, ρ, k, h, s, e => by
    obtain ⟨h1, h2⟩ := s 0 d ρ (fun ρ' => forGo pls step ds ρ' k) rfl h
    refine ⟨h1, h2 fun ρ' h' => ?_⟩
    refine for_go Inv ds (j + 1) ρ' k h' (fun i d' ρ2 K hd hI => ?_) fun ρ2 hI => e ρ2 ?_
    · have := s (i + 1) d' ρ2 K (by simpa using hd) (by rw [show j + (i + 1) = j + 1 + i by omega]; exact hI)
      rw [show j + (i + 1) = j + 1 + i by omega] at this
      exact this
    · rw [List.length_cons, show j + (ds.length + 1) = j + 1 + ds.length by omega]; exact hI
/-- over a mapped list -/
theorem for_map {α : Type} {step : D → Env → (Env → Prop) → Prop} (g : α → D) (xs : List α) (Inv : Nat → Env → Prop) {ρ : Env} {k : Env → Prop} (h0 : Inv 0 ρ)
    (hs : ∀ i x ρ (K : Env → Prop), xs[i]? = some x → Inv i ρ → still pls ρ ∧ ((∀ ρ', Inv (i + 1) ρ' → K ρ') → step (g x) ρ K)) (he : ∀ ρ, Inv xs.length ρ → still pls ρ ∧ k ρ) : forGo pls step (xs.map g) ρ k := by
  refine for_go Inv (xs.map g) 0 ρ k h0 (fun i d ρ K hd hI => ?_) fun ρ hI => he ρ (by simpa using hI)
  rw [List.getElem?_map] at hd
  obtain ⟨x, hx, rfl⟩ := Option.map_eq_some_iff.mp hd
  rw [Nat.zero_add] at hI ⊢
  exact hs i x ρ K hx hI
end
theorem still_nil (ρ : Env) : still [] ρ := fun q h => by cases h

theorem lc_rule {Γ : Gam} {ρ ρ1 : Env} {Q : QE} {p : Pat} {it : It} {c : Eo} {e : E} {own : List Nat} (its : Items) (hit : ∀ K : Items → Env → Prop, K its ρ1 → wpIt Γ it ρ K) (hl : its.ds.length ≤ 100000)
    (hgo : lcGo its.pls (lcStep Γ p c e own) its.ds (wipeR ρ1 own) [] (fun acc ρ6 => Q (.tmp acc) (backR ρ1 ρ6 own))) : wpE Γ (.lc p it c e own) ρ Q := hit _ ⟨hl, hgo⟩
theorem lc_all {Γ : Gam} {ρ : Env} {Q : QE} {p : Pat} {it : It} {c : Eo} {e : E} {own : List Nat} {α : Type} (ρ1 : Env) (pls : List (Pl × List D)) (g h : α → D) (xs : List α) (hit : ∀ K : Items → Env → Prop, K ⟨xs.map g, pls⟩ ρ1 → wpIt Γ it ρ K) (hl : xs.length ≤ 100000) (hst : still pls (wipeR ρ1 own))
    (hs : ∀ x ∈ xs, ∀ K : Option D → Env → Prop, K (some (h x)) (wipeR ρ1 own) → lcStep Γ p c e own (g x) (wipeR ρ1 own) K) (hq : Q (.tmp (xs.map h)) (backR ρ1 (wipeR ρ1 own) own)) : wpE Γ (.lc p it c e own) ρ Q :=
  lc_rule ⟨xs.map g, pls⟩ hit (by simpa using hl) (lc_map g h hst xs [] _ hs hq)
def wpOne (x : Ev) (K : D → Prop) : Prop := match x with
  | .val y => K y
  | _ => False
@[simp ↓, simp] theorem q_one (d : D) (K : D → Prop) : wpOne (.val d) K = K d := rfl
theorem lcStep_eq {Γ : Gam} {p : Pat} {c : Eo} {e : E} {own : List Nat} {d : D} {ρ2 : Env} {k : Option D → Env → Prop} : lcStep Γ p c e own d ρ2 k = wpPat Γ p d ρ2 fun ρ3 => wpC Γ c ρ3 fun b ρ4 => if b = true then wpE Γ e ρ4 (fun x ρ5 => wpOne x fun y => k (some y) (wipeR ρ5 own)) else k none (wipeR ρ4 own) := rfl
@[simp] theorem a_deqN (p q : Rat) : deq (nD p) (nD q) = decide (p = q) := deq_nD p q
@[simp] theorem a_okN (q : Rat) : okD (nD q) := okD_nD q
@[simp] theorem a_deqR (p q : List Rat) : deq (rowD p) (rowD q) = decide (p = q) := deq_row p q
@[simp] theorem a_okR (q : List Rat) : okD (rowD q) := okD_row q
@[simp ↓ high, simp high] theorem isi_nD (q : Rat) (t : Ty) (Q : Bool → Prop) : wpIsi (.val (nD q)) t Q = (True ∧ Q (isiD (nD q) t)) := by simp [wpIsi, nD, isVal]
@[simp ↓ high, simp high] theorem isiD_nD (q : Rat) : isiD (nD q) .tuple = true := rfl
@[simp ↓ high, simp high] theorem seq_itN (ρ : Env) (q : Rat) (K : Items → Env → Prop) : wpSeq ρ (.val (nD q)) K = K ⟨[.int q.num, .int q.den], []⟩ ρ := rfl
/-! ## promises as equations -/
theorem ex1 {α : Type} {f : α → Sl} (inj : ∀ a b, f a = f b → a = b) {K : α → Prop} (a : α) : (∃ x, [f a] = [f x] ∧ K x) = K a :=
  propext ⟨fun ⟨x, e, h⟩ => by rw [inj a x (List.cons.inj e).1]; exact h, fun h => ⟨a, rfl, h⟩⟩
theorem ex2 {α β : Type} {f : α → Sl} {g : β → Sl} (inj : ∀ a b, f a = f b → a = b) (inj2 : ∀ a b, g a = g b → a = b) {K : α → β → Prop} (a : α) (b : β) : (∃ x y, [f a, g b] = [f x, g y] ∧ K x y) = K a b :=
  propext ⟨fun ⟨x, y, e, h⟩ => by
    have e2 := List.cons.inj e
    rw [inj a x e2.1, inj2 b y (List.cons.inj e2.2).1]; exact h, fun h => ⟨a, b, rfl, h⟩⟩
theorem ex3 {α β γ : Type} {f : α → Sl} {g : β → Sl} {i : γ → Sl} (inj : ∀ a b, f a = f b → a = b) (inj2 : ∀ a b, g a = g b → a = b) (inj3 : ∀ a b, i a = i b → a = b) {K : α → β → γ → Prop} (a : α) (b : β) (c : γ) : (∃ x y z, [f a, g b, i c] = [f x, g y, i z] ∧ K x y z) = K a b c :=
  propext ⟨fun ⟨x, y, z, e, h⟩ => by
    have e2 := List.cons.inj e
    have e3 := List.cons.inj e2.2
    rw [inj a x e2.1, inj2 b y e3.1, inj3 c z (List.cons.inj e3.2).1]; exact h, fun h => ⟨a, b, c, rfl, h⟩⟩
theorem vI_inj (a b : Int) (h : vI a = vI b) : a = b := by injection h with h; injection h with h; injection h
theorem vN_inj (a b : Rat) (h : vN a = vN b) : a = b := by injection h with h; injection h with h; exact nD_inj.mp h
abbrev vR (q : List Rat) : Sl := .fd (.val (rowD q))
theorem vR_inj (a b : List Rat) (h : vR a = vR b) : a = b := by injection h with h; injection h with h; exact rowD_inj.mp h
@[simp ↓, simp] theorem common_eq (a b : Int) (R : Fd → List Sl → Prop) : sp_common [vI a, vI b] R = R (.val (.int (Int.gcd a b))) [vI a, vI b] := ex2 vI_inj vI_inj a b
@[simp ↓, simp] theorem number_eq (a b : Int) (R : Fd → List Sl → Prop) : sp_number [vI a, vI b] R = (b ≠ 0 ∧ b.natAbs < 2 ^ 9000 ∧ R (.val (nD (Rat.divInt a b))) [vI a, vI b]) := ex2 vI_inj vI_inj a b
@[simp ↓, simp] theorem added_eq (p q : Rat) (R : Fd → List Sl → Prop) : sp_added [vN p, vN q] R = (sm p ∧ sm q ∧ True ∧ R (.val (nD (p + q))) [vN p, vN q]) := ex2 vN_inj vN_inj p q
@[simp ↓, simp] theorem taken_eq (p q : Rat) (R : Fd → List Sl → Prop) : sp_taken [vN p, vN q] R = (sm p ∧ sm q ∧ True ∧ R (.val (nD (p - q))) [vN p, vN q]) := ex2 vN_inj vN_inj p q
@[simp ↓, simp] theorem parted_eq (p q : Rat) (R : Fd → List Sl → Prop) : sp_parted [vN p, vN q] R = (sm p ∧ sm q ∧ q ≠ 0 ∧ R (.val (nD (p / q))) [vN p, vN q]) := ex2 vN_inj vN_inj p q
@[simp ↓, simp] theorem is_less_eq (p q : Rat) (R : Fd → List Sl → Prop) : sp_is_less [vN p, vN q] R = (sm p ∧ sm q ∧ True ∧ R (.val (.bl (decide (p < q)))) [vN p, vN q]) := ex2 vN_inj vN_inj p q
def sp_is_whole : Spec := fun ss R => ∃ i : Int, ss = [vI i] ∧ R (.val (.bl true)) ss
@[simp ↓, simp] theorem is_whole_eq (i : Int) (R : Fd → List Sl → Prop) : sp_is_whole [vI i] R = R (.val (.bl true)) [vI i] := ex1 vI_inj i
theorem b_is_whole (Γ : Gam) : Body Γ 1 1 c_is_whole sp_is_whole := ⟨by
  rintro _ R ⟨i, rfl, h⟩
  refine ⟨rfl, by simp, ?_⟩
  show wpSs _ _ [vI i] _
  simp [c_is_whole]
  exact h⟩
def sp_is_number : Spec := fun ss R => ∃ q : Rat, ss = [vN q] ∧ R (.val (.bl true)) ss
@[simp ↓, simp] theorem is_number_eq (q : Rat) (R : Fd → List Sl → Prop) : sp_is_number [vN q] R = R (.val (.bl true)) [vN q] := ex1 vN_inj q
def G_is_number : Gam := { fn := [("common", sp_common), ("is_whole", sp_is_whole)] }
theorem gcd_nd (q : Rat) : Int.gcd q.num (q.den : Int) = 1 := q.reduced
theorem all_true {α : Type} (xs : List α) (K : List Bool → Prop) (h : K (xs.map fun _ => true)) : ∃ bs : List Bool, (xs.map fun _ => D.bl true) = bs.map D.bl ∧ K bs := ⟨xs.map fun _ => true, by simp, h⟩
theorem all_tt {α : Type} (t : List α) : (t.all fun _ => true) = true := by simp
theorem b_is_number : Body G_is_number 2 1 c_is_number sp_is_number := ⟨by
  rintro _ R ⟨q, rfl, h⟩
  refine ⟨rfl, by simp, ?_⟩
  show wpSs _ _ [vN q, .non] _
  simp [c_is_number, G_is_number]
  refine lc_all [vN q, .non] [] D.int (fun _ => .bl true) [q.num, (q.den : Int)] (fun K hK => by simp; exact hK) (by simp) (still_nil _) (fun x _ K hK => ?_) ?_
  · simp [lcStep_eq] at hK ⊢
    exact hK
  · simp
    refine ⟨[true, true], rfl, ?_⟩
    have := den_pos q
    simp [gcd_nd, show 1 ≤ (q.den : Int) by omega]
    exact h⟩
/-- pairs of bounds, tubes -/
def pairD (p : Rat × Rat) : D := .tup [nD p.1, nD p.2]
abbrev vP (p : Rat × Rat) : Sl := .fd (.val (pairD p))
theorem pairD_inj {p q : Rat × Rat} : pairD p = pairD q ↔ p = q := by
  refine ⟨fun h => ?_, fun h => by rw [h]⟩
  unfold pairD at h
  injection h with h
  have h1 := List.cons.inj h
  have h2 := List.cons.inj h1.2
  exact Prod.ext (nD_inj.mp h1.1) (nD_inj.mp h2.1)
theorem vP_inj (a b : Rat × Rat) (h : vP a = vP b) : a = b := by injection h with h; injection h with h; exact pairD_inj.mp h
def tubeD (t : List (Rat × Rat)) : D := .tup (t.map pairD)
abbrev vT (t : List (Rat × Rat)) : Sl := .fd (.val (tubeD t))
theorem map_inj {α : Type} {f : α → D} (inj : ∀ a b, f a = f b → a = b) : ∀ {xs ys : List α}, xs.map f = ys.map f → xs = ys
  | [], [], _ => rfl
  | [], _ :: _, h => by cases h
  | _ :: _, [], h => by cases h
  | x :: xs, y :: ys, h => by
    simp only [List.map_cons, List.cons.injEq] at h
    rw [inj _ _ h.1, map_inj inj h.2]
theorem vT_inj (a b : List (Rat × Rat)) (h : vT a = vT b) : a = b := by
  injection h with h; injection h with h; unfold tubeD at h; injection h with h
  exact map_inj (fun a b e => pairD_inj.mp e) h
@[simp ↓ high, simp high] theorem ix_P0 (ρ : Env) (p : Rat × Rat) (Q : QE) : wpIx ρ (.val (pairD p)) (.val (.int 0)) Q = Q (.val (nD p.1)) ρ := by
  apply propext
  exact ⟨fun ⟨d, h, q⟩ => by cases h; exact q, fun h => ⟨_, rfl, h⟩⟩
@[simp ↓ high, simp high] theorem ix_P1 (ρ : Env) (p : Rat × Rat) (Q : QE) : wpIx ρ (.val (pairD p)) (.val (.int 1)) Q = Q (.val (nD p.2)) ρ := by
  apply propext
  exact ⟨fun ⟨d, h, q⟩ => by cases h; exact q, fun h => ⟨_, rfl, h⟩⟩
@[simp ↓ high, simp high] theorem seq_P (ρ : Env) (p : Rat × Rat) : seqOf ρ (.val (pairD p)) = some [nD p.1, nD p.2] := rfl
@[simp ↓ high, simp high] theorem seq_T (ρ : Env) (t : List (Rat × Rat)) : seqOf ρ (.val (tubeD t)) = some (t.map pairD) := rfl
@[simp ↓ high, simp high] theorem seq_R (ρ : Env) (q : List Rat) : seqOf ρ (.val (rowD q)) = some (q.map nD) := rfl
@[simp ↓ high, simp high] theorem isi_P (p : Rat × Rat) (t : Ty) (Q : Bool → Prop) : wpIsi (.val (pairD p)) t Q = (True ∧ Q (isiD (pairD p) t)) := by simp [wpIsi, pairD, isVal]
@[simp ↓ high, simp high] theorem isi_T (p : List (Rat × Rat)) (t : Ty) (Q : Bool → Prop) : wpIsi (.val (tubeD p)) t Q = (True ∧ Q (isiD (tubeD p) t)) := by simp [wpIsi, tubeD, isVal]
@[simp ↓ high, simp high] theorem isi_R (p : List Rat) (t : Ty) (Q : Bool → Prop) : wpIsi (.val (rowD p)) t Q = (True ∧ Q (isiD (rowD p) t)) := by simp [wpIsi, rowD, isVal]
@[simp ↓ high, simp high] theorem isiD_P (p : Rat × Rat) : isiD (pairD p) .tuple = true := rfl
@[simp ↓ high, simp high] theorem isiD_T (p : List (Rat × Rat)) : isiD (tubeD p) .tuple = true := rfl
@[simp ↓ high, simp high] theorem isiD_R (p : List Rat) : isiD (rowD p) .tuple = true := rfl
@[simp ↓ high, simp high] theorem it_T (ρ : Env) (t : List (Rat × Rat)) (K : Items → Env → Prop) : wpSeq ρ (.val (tubeD t)) K = K ⟨t.map pairD, []⟩ ρ := rfl
@[simp ↓ high, simp high] theorem it_R (ρ : Env) (t : List Rat) (K : Items → Env → Prop) : wpSeq ρ (.val (rowD t)) K = K ⟨t.map nD, []⟩ ρ := rfl
/-- a pair that is in order -/
def pOk (p : Rat × Rat) : Prop := sm p.1 ∧ sm p.2 ∧ p.1 ≤ p.2
def sp_is_pair : Spec := fun ss R => ∃ p : Rat × Rat, ss = [vP p] ∧ pOk p ∧ R (.val (.bl true)) ss
@[simp ↓, simp] theorem is_pair_eq (p : Rat × Rat) (R : Fd → List Sl → Prop) : sp_is_pair [vP p] R = (pOk p ∧ R (.val (.bl true)) [vP p]) := ex1 vP_inj p
def G_is_pair : Gam := { fn := [("is_less", sp_is_less), ("is_number", sp_is_number)] }
theorem b_is_pair : Body G_is_pair 1 1 c_is_pair sp_is_pair := ⟨by
  rintro _ R ⟨p, rfl, ⟨h1, h2, h3⟩, h⟩
  refine ⟨rfl, by simp, ?_⟩
  show wpSs _ _ [vP p] _
  simp [c_is_pair, G_is_pair]
  have : ¬ p.2 < p.1 := Rat.not_lt.mpr h3
  simp [this]
  exact ⟨h2, h1, h⟩⟩
def G_is_tube : Gam := { fn := [("is_pair", sp_is_pair)], cst := [("MOST_PLACES", .int 25)] }
def tOk (t : List (Rat × Rat)) : Prop := 2 ≤ t.length ∧ t.length ≤ 25 ∧ ∀ p ∈ t, pOk p
def sp_is_tube : Spec := fun ss R => ∃ t : List (Rat × Rat), ss = [vT t] ∧ tOk t ∧ R (.val (.bl true)) ss
@[simp ↓, simp] theorem is_tube_eq (t : List (Rat × Rat)) (R : Fd → List Sl → Prop) : sp_is_tube [vT t] R = (tOk t ∧ R (.val (.bl true)) [vT t]) := ex1 vT_inj t
theorem b_is_tube : Body G_is_tube 2 1 c_is_tube sp_is_tube := ⟨by
  rintro _ R ⟨t, rfl, ⟨h1, h2, h3⟩, h⟩
  refine ⟨rfl, by simp, ?_⟩
  show wpSs _ _ [vT t, .non] _
  have e1 : (2 : Int) ≤ (t.length : Int) := by omega
  have e2 : (t.length : Int) ≤ 25 := by omega
  simp [c_is_tube, G_is_tube, e1, e2]
  refine lc_all [vT t, .non] [] pairD (fun _ => .bl true) t (fun K hK => by simp; exact hK) (by omega) (still_nil _) (fun x hx K hK => ?_) ?_
  · simp [lcStep_eq] at hK ⊢
    exact ⟨h3 x hx, hK⟩
  · simp
    refine all_true t _ ?_
    simp [all_tt]
    exact h⟩
/-- a tube that is tied -/
def tied (t : List (Rat × Rat)) : Prop := tOk t ∧ (∀ p, t[0]? = some p → p.1 = p.2) ∧ ∀ p, t[t.length - 1]? = some p → p.1 = p.2
def sp_is_tied : Spec := fun ss R => ∃ t : List (Rat × Rat), ss = [vT t] ∧ tied t ∧ R (.val (.bl true)) ss
@[simp ↓, simp] theorem is_tied_eq (t : List (Rat × Rat)) (R : Fd → List Sl → Prop) : sp_is_tied [vT t] R = (tied t ∧ R (.val (.bl true)) [vT t]) := ex1 vT_inj t
def G_is_tied : Gam := { fn := [("is_tube", sp_is_tube)] }
theorem atI_nat {α : Type} (xs : List α) (i : Nat) : atI xs (i : Int) = xs[i]? := by
  unfold atI ixN
  by_cases h : i < xs.length
  · have : (i : Int) < (xs.length : Int) := by omega
    simp [h]
  · have : ¬ (i : Int) < (xs.length : Int) := by omega
    simp [h, List.getElem?_eq_none (by omega : xs.length ≤ i)]
theorem atI_last {α : Type} (xs : List α) (h : xs ≠ []) : atI xs (-1) = xs[xs.length - 1]? := by
  have hl : 0 < xs.length := List.length_pos_iff.mpr h
  unfold atI ixN
  have h1 : ¬ (0 : Int) ≤ -1 := by decide
  have h2 : -(xs.length : Int) ≤ -1 := by omega
  rw [if_neg h1, if_pos h2]
  show xs[(-1 + (xs.length : Int)).toNat]? = _
  congr 1
  omega
/-- a place of a list of data -/
theorem ix_map {α : Type} {ρ : Env} {a : Ev} {f : α → D} {xs : List α} {i : Int} {Q : QE} (hs : seqOf ρ a = some (xs.map f)) (x : α) (h : atI xs i = some x) (hq : Q (.val (f x)) ρ) : wpIx ρ a (.val (.int i)) Q := by
  rw [o_ix, hs]
  refine ⟨f x, ?_, hq⟩
  unfold atI at h ⊢
  rw [List.length_map]
  cases e : ixN xs.length i with
  | none => rw [e] at h; cases h
  | some j =>
    rw [e] at h
    show (xs.map f)[j]? = _
    rw [List.getElem?_map]
    have h' : xs[j]? = some x := h
    rw [h']; rfl
theorem b_is_tied : Body G_is_tied 1 1 c_is_tied sp_is_tied := ⟨by
  rintro _ R ⟨t, rfl, ⟨h1, h2, h3⟩, h⟩
  refine ⟨rfl, by simp, ?_⟩
  show wpSs _ _ [vT t] _
  have hl := h1.1
  have e0 : atI t 0 = some t[0] := (atI_nat t 0).trans (List.getElem?_eq_getElem (by omega))
  have e1 : atI t (-1) = some t[t.length - 1] := (atI_last t (by intro z; rw [z] at hl; simp at hl)).trans (List.getElem?_eq_getElem (by omega))
  have q0 := h2 _ (List.getElem?_eq_getElem (by omega))
  have q1 := h3 _ (List.getElem?_eq_getElem (by omega))
  simp [c_is_tied, G_is_tied, -o_ix]
  refine ⟨h1, ix_map (seq_T _ _) _ e0 ?_⟩
  simp [-o_ix]
  refine ix_map (seq_T _ _) _ e0 ?_
  simp [-o_ix, q0]
  refine ix_map (seq_T _ _) _ e1 ?_
  simp [-o_ix]
  refine ix_map (seq_T _ _) _ e1 ?_
  simp [q1]
  exact h⟩
def sp_check_tied : Spec := fun ss R => ∃ t : List (Rat × Rat), ss = [vT t] ∧ tied t ∧ R (.val .non) ss
@[simp ↓, simp] theorem check_tied_eq (t : List (Rat × Rat)) (R : Fd → List Sl → Prop) : sp_check_tied [vT t] R = (tied t ∧ R (.val .non) [vT t]) := ex1 vT_inj t
def G_check_tied : Gam := { fn := [("is_tied", sp_is_tied)] }
theorem b_check_tied : Body G_check_tied 1 1 c_check_tied sp_check_tied := ⟨by
  rintro _ R ⟨t, rfl, h1, h⟩
  refine ⟨rfl, by simp, ?_⟩
  show wpSs _ _ [vT t] _
  simp [c_check_tied, G_check_tied]
  exact ⟨h1, h⟩⟩
def sp_are_numbers : Spec := fun ss R => ∃ (q : List Rat) (a b : Int), ss = [vR q, vI a, vI b] ∧ (a ≤ q.length ∧ q.length ≤ b ∧ q.length ≤ 100000) ∧ R (.val (.bl true)) ss
@[simp ↓, simp] theorem are_numbers_eq (q : List Rat) (a b : Int) (R : Fd → List Sl → Prop) : sp_are_numbers [vR q, vI a, vI b] R = ((a ≤ q.length ∧ q.length ≤ b ∧ q.length ≤ 100000) ∧ R (.val (.bl true)) [vR q, vI a, vI b]) := ex3 vR_inj vI_inj vI_inj q a b
def G_are_numbers : Gam := { fn := [("is_number", sp_is_number)] }
theorem b_are_numbers : Body G_are_numbers 4 3 c_are_numbers sp_are_numbers := ⟨by
  rintro _ R ⟨q, a, b, rfl, ⟨h1, h2, h3⟩, h⟩
  refine ⟨rfl, by simp, ?_⟩
  show wpSs _ _ [vR q, vI a, vI b, .non] _
  simp [c_are_numbers, G_are_numbers, h1, h2]
  refine lc_all [vR q, vI a, vI b, .non] [] nD (fun _ => .bl true) q (fun K hK => by simp; exact hK) h3 (still_nil _) (fun x hx K hK => ?_) ?_
  · simp [lcStep_eq] at hK ⊢
    exact hK
  · simp
    refine all_true q _ ?_
    simp [all_tt]
    exact h⟩
def sp_check_plain_row : Spec := fun ss R => ∃ q : List Rat, ss = [vR q] ∧ (2 ≤ q.length ∧ q.length ≤ 25) ∧ R (.val .non) ss
@[simp ↓, simp] theorem check_plain_row_eq (q : List Rat) (R : Fd → List Sl → Prop) : sp_check_plain_row [vR q] R = ((2 ≤ q.length ∧ q.length ≤ 25) ∧ R (.val .non) [vR q]) := ex1 vR_inj q
def G_check_plain_row' (x : Str) : Gam := { fn := [(x, sp_are_numbers)], cst := [("MOST_PLACES", .int 25)] }
abbrev G_check_plain_row : Gam := G_check_plain_row' "are_numbers"
theorem b_check_plain_row' (x : Str) : Body (G_check_plain_row' x) 1 1 c_check_plain_row sp_check_plain_row := ⟨by
  rintro _ R ⟨q, rfl, ⟨h1, h2⟩, h⟩
  refine ⟨rfl, by simp, ?_⟩
  show wpSs _ _ [vR q] _
  simp [c_check_plain_row, G_check_plain_row']
  exact ⟨⟨by omega, by omega, by omega⟩, h⟩⟩
theorem b_check_plain_row : Body G_check_plain_row 1 1 c_check_plain_row sp_check_plain_row := b_check_plain_row' "are_numbers"
end DL

/-! DM3 -/
set_option exponentiation.threshold 100
namespace DL
open PySem PySem.Spec PyProof.Rows L2

/-! ## the size of numbers -/
theorem nat_int (n : Nat) : ((n : Int) : Rat) = (n : Rat) := rfl
/-- on the grid 1/D, at most M -/
def bd (D M : Nat) (q : Rat) : Prop := (∃ z : Int, q * (D : Rat) = (z : Rat)) ∧ -(M : Rat) ≤ q ∧ q ≤ (M : Rat)
theorem bd_add {D M N : Nat} {p q : Rat} (h : bd D M p) (g : bd D N q) : bd D (M + N) (p + q) := by
  obtain ⟨⟨z, hz⟩, h1, h2⟩ := h
  obtain ⟨⟨y, hy⟩, g1, g2⟩ := g
  refine ⟨⟨z + y, by rw [Rat.add_mul, hz, hy]; simp⟩, ?_, ?_⟩ <;> (have : ((M + N : Nat) : Rat) = (M : Rat) + N := by simp) <;> grind
theorem bd_sub {D M N : Nat} {p q : Rat} (h : bd D M p) (g : bd D N q) : bd D (M + N) (p - q) := by
  obtain ⟨⟨z, hz⟩, h1, h2⟩ := h
  obtain ⟨⟨y, hy⟩, g1, g2⟩ := g
  refine ⟨⟨z - y, ?_⟩, ?_, ?_⟩
  · rw [Rat.sub_eq_add_neg, Rat.add_mul, Rat.neg_mul, hz, hy, Rat.intCast_sub]; grind
  all_goals (have : ((M + N : Nat) : Rat) = (M : Rat) + N := by simp); grind
theorem bd_le {D M N : Nat} {q : Rat} (h : bd D M q) (le : M ≤ N) : bd D N q := by
  obtain ⟨h0, h1, h2⟩ := h
  have := LC.cast_le le
  exact ⟨h0, by grind, by grind⟩
theorem bd_dvd {D E M : Nat} {q : Rat} (h : bd D M q) (d : D ∣ E) : bd E M q := by
  obtain ⟨⟨z, hz⟩, h1⟩ := h
  obtain ⟨c, rfl⟩ := d
  refine ⟨⟨z * c, ?_⟩, h1⟩
  have : ((D * c : Nat) : Rat) = (D : Rat) * c := by simp
  rw [this, ← Rat.mul_assoc, hz]; simp [nat_int]
theorem bd_div {D M k : Nat} {q : Rat} (h : bd D M q) (hk : 0 < k) : bd (D * k) M (q / (k : Rat)) := by
  obtain ⟨⟨z, hz⟩, h1, h2⟩ := h
  have k0 : (0 : Rat) < (k : Rat) := by have := LC.cast_lt hk; simpa using this
  have k1 : (1 : Rat) ≤ (k : Rat) := by have := LC.cast_le (show 1 ≤ k from hk); simpa using this
  have kz : (k : Rat) ≠ 0 := fun e => by rw [e] at k0; exact Rat.lt_irrefl k0
  have e := Rat.div_mul_cancel (a := q) kz
  have m0 : (0 : Rat) ≤ (M : Rat) := by grind
  have mk : (M : Rat) * 1 ≤ (M : Rat) * k := Rat.mul_le_mul_of_nonneg_left k1 m0
  refine ⟨⟨z, ?_⟩, ?_, ?_⟩
  · have : ((D * k : Nat) : Rat) = (k : Rat) * D := by simp [Rat.mul_comm]
    rw [this, ← Rat.mul_assoc, e, hz]
  · apply Rat.le_of_mul_le_mul_right (c := (k : Rat)) _ k0
    rw [e]; grind
  · apply Rat.le_of_mul_le_mul_right (c := (k : Rat)) _ k0
    rw [e]; grind
theorem sm_of {D M : Nat} {q : Rat} (h : bd D M q) (h0 : 0 < D) (hD : D < 2 ^ 2000) (hM : M * D < 2 ^ 2000) : sm q := by
  obtain ⟨⟨z, hz⟩, h1, h2⟩ := h
  have d0 : (0 : Rat) < (D : Rat) := by have := LC.cast_lt h0; simpa using this
  have dz : (D : Rat) ≠ 0 := fun e => by rw [e] at d0; exact Rat.lt_irrefl d0
  have e : q = Rat.divInt z (D : Int) := by
    rw [Rat.divInt_eq_div, ← hz]
    have := Rat.mul_div_cancel (a := q) dz
    simpa [nat_int] using this.symm
  have zb : z.natAbs ≤ M * D := by
    have a1 : (z : Rat) ≤ ((M * D : Nat) : Rat) := by
      rw [← hz]; have := Rat.mul_le_mul_of_nonneg_right h2 (Rat.le_of_lt d0); simpa using this
    have a2 : -((M * D : Nat) : Rat) ≤ (z : Rat) := by
      rw [← hz]
      have := Rat.mul_le_mul_of_nonneg_right h1 (Rat.le_of_lt d0)
      have c : ((M * D : Nat) : Rat) = (M : Rat) * D := by simp
      rw [c]; grind
    have b1 : z ≤ ((M * D : Nat) : Int) := by
      have : (z : Rat) ≤ (((M * D : Nat) : Int) : Rat) := by simpa [nat_int] using a1
      exact Rat.intCast_le_intCast.mp this
    have b2 : -((M * D : Nat) : Int) ≤ z := by
      have : ((-((M * D : Nat) : Int) : Int) : Rat) ≤ (z : Rat) := by simpa [nat_int] using a2
      exact Rat.intCast_le_intCast.mp this
    omega
  rw [e]
  refine ⟨?_, ?_⟩
  · rw [Rat.num_divInt]
    have : ((D : Int).sign * z / ((D : Int).gcd z : Int)).natAbs ≤ z.natAbs := by
      rw [Int.sign_eq_one_of_pos (by omega), Int.one_mul]
      have := Int.natAbs_ediv_le_natAbs z ((D : Int).gcd z : Int)
      exact this
    omega
  · rw [Rat.den_divInt, if_neg (by omega)]
    have : (D : Int).natAbs / (D : Int).gcd z ≤ D := Nat.le_trans (Nat.div_le_self _ _) (by simp)
    omega
end DL

/-! DM4 -/
set_option exponentiation.threshold 100
namespace DL
open PySem PySem.Spec PyProof.Rows L2

/-! ## cords: slope_to, Reach -/
theorem nD_int (i : Int) : nD (i : Rat) = .tup [.int i, .int 1] := rfl
def sp_whole : Spec := fun ss R => ∃ i : Int, ss = [vI i] ∧ R (.val (nD (i : Rat))) ss
@[simp ↓, simp] theorem whole_eq (i : Int) (R : Fd → List Sl → Prop) : sp_whole [vI i] R = R (.val (nD (i : Rat))) [vI i] := ex1 vI_inj i
theorem b_whole (Γ : Gam) : Body Γ 1 1 c_whole sp_whole := ⟨by
  rintro _ R ⟨i, rfl, h⟩
  refine ⟨rfl, by simp, ?_⟩
  show wpSs _ _ [vI i] _
  simp [c_whole]
  exact h⟩
abbrev vE (p : Rat × Int) : Sl := .fd (.val (.tup [nD p.1, .int p.2]))
theorem vE_inj (a b : Rat × Int) (h : vE a = vE b) : a = b := by
  injection h with h; injection h with h; injection h with h
  have h1 := List.cons.inj h
  have h2 := List.cons.inj h1.2
  have h3 := h2.1
  injection h3 with h3
  exact Prod.ext (nD_inj.mp h1.1) h3
theorem sm_int {i : Int} (h : i.natAbs < 2 ^ 2000) : sm (i : Rat) := ⟨h, by show 1 < 2 ^ 2000; exact Nat.one_lt_two_pow (by decide)⟩
def sp_slope_to : Spec := fun ss R => ∃ (e : Rat × Int) (h : Rat), ss = [vE e, vN h] ∧ (sm e.1 ∧ sm h ∧ sm (h - e.1) ∧ e.2 ≠ 0 ∧ e.2.natAbs < 2 ^ 2000) ∧ R (.val (nD ((h - e.1) / (e.2 : Rat)))) ss
@[simp ↓, simp] theorem slope_to_eq (e : Rat) (i : Int) (h : Rat) (R : Fd → List Sl → Prop) : sp_slope_to [.fd (.val (.tup [nD e, .int i])), vN h] R = ((sm e ∧ sm h ∧ sm (h - e) ∧ i ≠ 0 ∧ i.natAbs < 2 ^ 2000) ∧ R (.val (nD ((h - e) / (i : Rat)))) [.fd (.val (.tup [nD e, .int i])), vN h]) := ex2 vE_inj vN_inj (e, i) h
def G_slope_to : Gam := { fn := [("parted", sp_parted), ("whole", sp_whole), ("taken", sp_taken)] }
theorem b_slope_to : Body G_slope_to 4 2 c_slope_to sp_slope_to := ⟨by
  rintro _ R ⟨⟨e, i⟩, h, rfl, ⟨h1, h2, h3, h4, h5⟩, hh⟩
  refine ⟨rfl, by simp, ?_⟩
  show wpSs _ _ [vE (e, i), vN h, .non, .non] _
  simp [c_slope_to, G_slope_to]
  have : (i : Rat) ≠ 0 := fun z => h4 (by have := (Rat.intCast_eq_zero_iff (a := i)).mp z; exact this)
  exact ⟨h2, h1, h3, sm_int h5, by simpa using this, hh⟩⟩
/-- a touch -/
abbrev Tch := Rat × Int × Rat
def tchD (t : Tch) : D := .tup [nD t.1, .int t.2.1, nD t.2.2]
def optD : Option Tch → D
  | none => .non
  | some t => tchD t
@[simp ↓, simp] theorem non_opt (o : Option Tch) : isNon (.val (optD o)) = o.isNone := by cases o <;> rfl
@[simp ↓, simp] theorem non_tch (t : Tch) : isNon (.val (tchD t)) = false := rfl
@[simp ↓ high, simp high] theorem seq_tch (ρ : Env) (t : Tch) : seqOf ρ (.val (tchD t)) = some [nD t.1, .int t.2.1, nD t.2.2] := rfl
@[simp ↓ high, simp high] theorem ix_tch (ρ : Env) (t : Tch) (Q : QE) : wpIx ρ (.val (tchD t)) (.val (.int 0)) Q = Q (.val (nD t.1)) ρ := by
  apply propext
  exact ⟨fun ⟨d, h, q⟩ => by cases h; exact q, fun h => ⟨_, rfl, h⟩⟩
def rch (a : Int) (h : Rat) (M L : Option Tch) : List (Fn × Fd) := [(.begin_, .val (.int a)), (.height, .val (nD h)), (.most, .val (optD M)), (.least, .val (optD L))]
abbrev vC (a : Int) (h : Rat) (M L : Option Tch) : Sl := .ins .Reach (rch a h M L)
def spI_Reach : ISpec := fun ss R => ∃ (a : Int) (h : Rat), ss = [vI a, vN h] ∧ R (rch a h none none) ss
@[simp ↓, simp] theorem iReach_eq (a : Int) (h : Rat) (R : List (Fn × Fd) → List Sl → Prop) : spI_Reach [vI a, vN h] R = R (rch a h none none) [vI a, vN h] := ex2 vI_inj vN_inj a h
def G_Reach0 : Gam := { cls := [.Reach] }
theorem b_Reach_init : BodyI G_Reach0 .Reach 3 3 c_Reach___init__ spI_Reach := ⟨by
  rintro _ R ⟨a, h, rfl, hh⟩
  refine ⟨rfl, by decide, by simp, ?_⟩
  show wpSs _ _ [.ins .Reach [], vI a, vN h] _
  simp [c_Reach___init__, G_Reach0, rtI]
  exact hh⟩
def crossF (M L : Option Tch) (low high : Rat) : Option Tch := match M with
  | some m => if m.1 < low then some m else (match L with
    | some l => if high < l.1 then some l else none
    | none => none)
  | none => (match L with
    | some l => if high < l.1 then some l else none
    | none => none)
def smO (o : Option Tch) : Prop := ∀ t, o = some t → sm t.1
def sp_crossed : Spec := fun ss R => ∃ (a : Int) (h : Rat) (M L : Option Tch) (low high : Rat), ss = [vC a h M L, vN low, vN high] ∧ (smO M ∧ smO L ∧ sm low ∧ sm high) ∧ R (.val (optD (crossF M L low high))) ss
def G_crossed : Gam := { fn := [("is_less", sp_is_less)], cls := [.Reach] }
theorem b_crossed : Body G_crossed 3 3 c_Reach_crossed sp_crossed := ⟨by
  rintro _ R ⟨a, h, M, L, low, high, rfl, ⟨h1, h2, h3, h4⟩, hh⟩
  refine ⟨rfl, ⟨.inr rfl, by simp⟩, ?_⟩
  show wpSs _ _ [vC a h M L, vN low, vN high] _
  have lM : ∀ m, M = some m → sm m.1 := h1
  have lL : ∀ m, L = some m → sm m.1 := h2
  cases M with
  | none =>
    cases L with
    | none =>
      simp only [vC, rch, optD, crossF] at hh ⊢
      simp [c_Reach_crossed, G_crossed]
      exact hh
    | some l =>
      have := lL l rfl
      simp only [vC, rch, optD, crossF] at hh ⊢
      by_cases c : high < l.1
      · simp [c_Reach_crossed, G_crossed, c, h4, this] at hh ⊢
        exact hh
      · simp [c_Reach_crossed, G_crossed, c, h4, this] at hh ⊢
        exact hh
  | some m =>
    have t1 := lM m rfl
    cases L with
    | none =>
      simp only [vC, rch, optD, crossF] at hh ⊢
      by_cases c : m.1 < low
      · simp [c_Reach_crossed, G_crossed, c, h3, t1] at hh ⊢
        exact hh
      · simp [c_Reach_crossed, G_crossed, c, h3, t1] at hh ⊢
        exact hh
    | some l =>
      have t2 := lL l rfl
      simp only [vC, rch, optD, crossF] at hh ⊢
      by_cases c : m.1 < low
      · simp [c_Reach_crossed, G_crossed, c, h3, t1] at hh ⊢
        exact hh
      · by_cases c2 : high < l.1
        · simp [c_Reach_crossed, G_crossed, c, c2, h3, h4, t1, t2] at hh ⊢
          exact hh
        · simp [c_Reach_crossed, G_crossed, c, c2, h3, h4, t1, t2] at hh ⊢
          exact hh⟩
end DL

/-! DM5 -/
set_option exponentiation.threshold 100
namespace DL
open PySem PySem.Spec PyProof.Rows L2

/-! ## Reach.take -/
def takeM (M : Option Tch) (high : Rat) (place : Int) (y : Rat) : Tch := match M with
  | some m => if m.1 < high then m else (high, place, y)
  | none => (high, place, y)
def takeL (L : Option Tch) (low : Rat) (place : Int) (y : Rat) : Tch := match L with
  | some l => if low < l.1 then l else (low, place, y)
  | none => (low, place, y)
def slp (h x : Rat) (place a : Int) : Rat := (x - h) / ((place : Rat) - (a : Rat))
structure TakeOk (a : Int) (h : Rat) (M L : Option Tch) (place : Int) (b : Rat × Rat) : Prop where
  d0 : place - a ≠ 0
  d1 : (place - a).natAbs < 2 ^ 2000
  sh : sm h
  b1 : sm b.1
  b2 : sm b.2
  c1 : sm (b.1 - h)
  c2 : sm (b.2 - h)
  e1 : sm (slp h b.1 place a)
  e2 : sm (slp h b.2 place a)
  sM : smO M
  sL : smO L
def nextM (M L : Option Tch) (a : Int) (h : Rat) (place : Int) (b : Rat × Rat) : Option Tch := match crossF M L (slp h b.1 place a) (slp h b.2 place a) with
  | none => some (takeM M (slp h b.2 place a) place b.2)
  | some _ => M
def nextL (M L : Option Tch) (a : Int) (h : Rat) (place : Int) (b : Rat × Rat) : Option Tch := match crossF M L (slp h b.1 place a) (slp h b.2 place a) with
  | none => some (takeL L (slp h b.1 place a) place b.1)
  | some _ => L
def sp_take : Spec := fun ss R => ∃ (a : Int) (h : Rat) (M L : Option Tch) (place : Int) (b : Rat × Rat), ss = [vC a h M L, vI place, vP b] ∧ TakeOk a h M L place b ∧
  R (.val (optD (crossF M L (slp h b.1 place a) (slp h b.2 place a)))) [vC a h (nextM M L a h place b) (nextL M L a h place b), vI place, vP b]
def G_take : Gam := { fn := [("is_less", sp_is_less), ("slope_to", sp_slope_to)], met := [(.Reach, "crossed", sp_crossed)], cls := [.Reach] }
theorem b_take : Body G_take 6 3 c_Reach_take sp_take := ⟨by
  rintro _ R ⟨a, h, M, L, place, b, rfl, T, hh⟩
  refine ⟨rfl, ⟨.inr rfl, by simp⟩, ?_⟩
  show wpSs _ _ [vC a h M L, vI place, vP b, .non, .non, .non] _
  simp only [vC, rch]
  simp [c_Reach_take, G_take]
  refine ⟨⟨T.sh, T.b1, T.c1, T.d0, T.d1⟩, ⟨T.sh, T.b2, T.c2, T.d0, T.d1⟩, ?_⟩
  refine ⟨a, h, M, L, slp h b.1 place a, slp h b.2 place a, rfl, ⟨T.sM, T.sL, T.e1, T.e2⟩, ?_⟩
  unfold nextM nextL at hh
  cases hf : crossF M L (slp h b.1 place a) (slp h b.2 place a) with
  | some t =>
    rw [hf] at hh
    simp [optD, rch]
    exact hh
  | none =>
    rw [hf] at hh
    have eM : ∀ m, M = some m → sm m.1 := T.sM
    have eL : ∀ m, L = some m → sm m.1 := T.sL
    have s1 := T.e1
    have s2 := T.e2
    simp only [show (b.1 - h) / ((place : Rat) - (a : Rat)) = slp h b.1 place a from rfl, show (b.2 - h) / ((place : Rat) - (a : Rat)) = slp h b.2 place a from rfl]
    generalize slp h b.1 place a = low at *
    generalize slp h b.2 place a = high at *
    cases M with
    | none =>
      cases L with
      | none =>
        simp only [takeM, takeL] at hh
        simp [optD, rch]
        exact hh
      | some l =>
        have t2 := eL l rfl
        by_cases c : low < l.1
        · simp only [takeM, takeL, if_pos c] at hh
          simp [optD, rch, c, t2, s1]
          exact hh
        · simp only [takeM, takeL, if_neg c] at hh
          simp [optD, rch, c, t2, s1]
          exact hh
    | some m =>
      have t1 := eM m rfl
      cases L with
      | none =>
        by_cases c : m.1 < high
        · simp only [takeM, takeL, if_pos c] at hh
          simp [optD, rch, c, t1, s2]
          exact hh
        · simp only [takeM, takeL, if_neg c] at hh
          simp [optD, rch, c, t1, s2]
          exact hh
      | some l =>
        have t2 := eL l rfl
        by_cases c : m.1 < high <;> by_cases c2 : low < l.1
        all_goals
          simp only [takeM, takeL, c, c2, if_true, if_false] at hh
          simp [optD, rch, c, c2, t1, t2, s1, s2]
          exact hh⟩
end DL

/-! DM6 -/
set_option exponentiation.threshold 100
namespace DL
open PySem PySem.Spec PyProof.Rows L2 LC

/-! ## touch_behind -/
def loT (t : List (Rat × Rat)) (k : Nat) : Rat := (t.getD k (0, 0)).1
def hiT (t : List (Rat × Rat)) (k : Nat) : Rat := (t.getD k (0, 0)).2
def K24 : Nat := 5354228880
theorem dvd24' : ∀ k : Nat, k < 25 → 0 < k → k ∣ K24 := by decide +kernel
theorem dvd24 (k : Nat) (h : 0 < k) (h2 : k < 25) : k ∣ K24 := dvd24' k h2 h
/-- a tube of small numbers -/
structure TubOk (D M : Nat) (t : List (Rat × Rat)) : Prop where
  len2 : 2 ≤ t.length
  len : t.length ≤ 25
  d0 : 0 < D
  dd : D * K24 < 2 ^ 1000
  mm : 4 * M * (D * K24) < 2 ^ 2000
  bnd : ∀ p ∈ t, bd D M p.1 ∧ bd D M p.2 ∧ p.1 ≤ p.2
  beg : loT t 0 = hiT t 0
  fin : loT t (t.length - 1) = hiT t (t.length - 1)
section
variable {D M : Nat} {t : List (Rat × Rat)}
theorem TubOk.at_ (O : TubOk D M t) {k : Nat} (hk : k < t.length) : ∃ p, t[k]? = some p ∧ p = (loT t k, hiT t k) ∧ bd D M (loT t k) ∧ bd D M (hiT t k) ∧ loT t k ≤ hiT t k := by
  have e : t.getD k (0, 0) = t[k] := by simp [List.getD, hk]
  refine ⟨t[k], List.getElem?_eq_getElem hk, ?_, ?_⟩
  · unfold loT hiT; rw [e]
  · unfold loT hiT; rw [e]; exact O.bnd _ (List.getElem_mem hk)
theorem TubOk.sm (O : TubOk D M t) {N : Nat} {q : Rat} (h : bd (D * K24) N q) (hN : N ≤ 4 * M) : DL.sm q :=
  sm_of h (Nat.mul_pos O.d0 (by decide)) (Nat.lt_of_lt_of_le O.dd (Nat.pow_le_pow_right (by decide) (by decide))) (Nat.lt_of_le_of_lt (Nat.mul_le_mul_right _ hN) O.mm)
theorem bd24 {N : Nat} {q : Rat} (h : bd D N q) : bd (D * K24) N q := bd_dvd h (Nat.dvd_mul_right ..)
theorem bd_slope {x h : Rat} (hx : bd D M x) (hh : bd D M h) {k : Nat} (h0 : 0 < k) (h1 : k < 25) : bd (D * K24) (M + M) ((x - h) / (k : Rat)) :=
  bd_dvd (bd_div (bd_sub hx hh) h0) (Nat.mul_dvd_mul_left _ (dvd24 k h0 h1))
end
theorem gap_int (a i : Nat) : (((a : Int) + 1 + (i : Int) : Int) : Rat) - ((a : Int) : Rat) = ((i + 1 : Nat) : Rat) := by
  have : ((a : Int) + 1 + (i : Int)) = ((a + 1 + i : Nat) : Int) := by omega
  rw [this, nat_int, nat_int]
  have e1 : ((a + 1 + i : Nat) : Rat) = (a : Rat) + 1 + i := by simp
  have e2 : ((i + 1 : Nat) : Rat) = (i : Rat) + 1 := by simp
  rw [e1, e2]; grind
theorem gap_nat (a i : Nat) : ((a + i + 1 : Nat) : Rat) - (a : Rat) = ((i + 1 : Nat) : Rat) := by
  have e1 : ((a + i + 1 : Nat) : Rat) = (a : Rat) + i + 1 := by simp
  have e2 : ((i + 1 : Nat) : Rat) = (i : Rat) + 1 := by simp
  rw [e1, e2]; grind
/-- behind i places -/
def RInv (t : List (Rat × Rat)) (D M : Nat) (a : Nat) (h : Rat) (Mo Lo : Option Tch) : Nat → Prop
  | 0 => Mo = none ∧ Lo = none
  | i + 1 => ∃ (U : Rat) (m : Nat) (V : Rat) (l : Nat), Mo = some (U, (m : Int), hiT t m) ∧ Lo = some (V, (l : Int), loT t l) ∧ Srch (loT t) (hiT t) a h (a + i + 1) U m V l ∧ bd (D * K24) (M + M) U ∧ bd (D * K24) (M + M) V
def sp_touch : Spec := fun ss R => ∃ (D M : Nat) (t : List (Rat × Rat)) (a : Nat) (h : Rat), ss = [vT t, vI a, vN h] ∧ (TubOk D M t ∧ a + 1 < t.length ∧ bd D M h) ∧
  ∀ (s : Rat) (m : Nat) (y : Rat), Touch (loT t) (hiT t) (t.length - 1) a h s m y → bd (D * K24) (M + M) s → y = loT t m ∨ y = hiT t m → R (.val (tchD (s, (m : Int), y))) ss
/-- a place is taken: either a touch, or further -/
theorem take_law {t : List (Rat × Rat)} {D M a i : Nat} {h : Rat} {Mo Lo : Option Tch} (O : TubOk D M t) (hh : bd D M h) (hi : a + i + 1 < t.length) (I : RInv t D M a h Mo Lo i) :
    TakeOk (a : Int) h Mo Lo ((a : Int) + 1 + (i : Int)) (loT t (a + i + 1), hiT t (a + i + 1)) ∧
    (∀ f, crossF Mo Lo (slp h (loT t (a + i + 1)) ((a : Int) + 1 + (i : Int)) a) (slp h (hiT t (a + i + 1)) ((a : Int) + 1 + (i : Int)) a) = some f → ∃ s m y, f = (s, ((m : Nat) : Int), y) ∧ Touch (loT t) (hiT t) (t.length - 1) a h s m y ∧ bd (D * K24) (M + M) s ∧ (y = loT t m ∨ y = hiT t m)) ∧
    (crossF Mo Lo (slp h (loT t (a + i + 1)) ((a : Int) + 1 + (i : Int)) a) (slp h (hiT t (a + i + 1)) ((a : Int) + 1 + (i : Int)) a) = none → RInv t D M a h (some (takeM Mo (slp h (hiT t (a + i + 1)) ((a : Int) + 1 + (i : Int)) a) ((a : Int) + 1 + (i : Int)) (hiT t (a + i + 1)))) (some (takeL Lo (slp h (loT t (a + i + 1)) ((a : Int) + 1 + (i : Int)) a) ((a : Int) + 1 + (i : Int)) (loT t (a + i + 1)))) (i + 1)) := by
  obtain ⟨p, _, _, b1, b2, b3⟩ := O.at_ hi
  have hlen := O.len
  have eS : ∀ x, slp h x ((a : Int) + 1 + (i : Int)) a = (x - h) / ((i + 1 : Nat) : Rat) := fun x => by unfold slp; rw [gap_int]
  have eT : ∀ x, (x - h) / (((a + i + 1 : Nat) : Rat) - a) = (x - h) / ((i + 1 : Nat) : Rat) := fun x => by rw [gap_nat]
  have g1 := bd_slope b1 hh (show 0 < i + 1 by omega) (by omega)
  have g2 := bd_slope b2 hh (show 0 < i + 1 by omega) (by omega)
  rw [eS, eS]
  have smO' : smO Mo ∧ smO Lo := by
    cases i with
    | zero =>
      obtain ⟨rfl, rfl⟩ := I
      exact ⟨fun _ z => (by cases z), fun _ z => (by cases z)⟩
    | succ i =>
      obtain ⟨U, m, V, l, rfl, rfl, _, u, v⟩ := I
      exact ⟨fun _ z => (by cases z; exact O.sm u (by omega)), fun _ z => (by cases z; exact O.sm v (by omega))⟩
  refine ⟨⟨by omega, ?_, O.sm (bd24 hh) (by omega), O.sm (bd24 b1) (by omega), O.sm (bd24 b2) (by omega), O.sm (bd24 (bd_sub b1 hh)) (by omega), O.sm (bd24 (bd_sub b2 hh)) (by omega), by rw [eS]; exact O.sm g1 (by omega), by rw [eS]; exact O.sm g2 (by omega), smO'.1, smO'.2⟩, ?_, ?_⟩
  · have : (((a : Int) + 1 + (i : Int)) - (a : Int)).natAbs ≤ 25 := by omega
    exact Nat.lt_of_le_of_lt this (Nat.lt_of_lt_of_le (by decide : 25 < 2 ^ 5) (Nat.pow_le_pow_right (by decide) (by decide)))
  · intro f hf
    cases i with
    | zero =>
      obtain ⟨rfl, rfl⟩ := I
      simp [crossF] at hf
    | succ i =>
      obtain ⟨U, m, V, l, rfl, rfl, S, u, v⟩ := I
      have e1 := eT (loT t (a + (i + 1) + 1))
      have e2 := eT (hiT t (a + (i + 1) + 1))
      simp only [crossF] at hf
      split at hf
      · rename_i c
        cases hf
        rw [← e1] at c
        exact ⟨U, m, _, rfl, touch_most S (by omega) c, u, .inr rfl⟩
      · split at hf
        · rename_i c
          cases hf
          rw [← e2] at c
          exact ⟨V, l, _, rfl, touch_least S (by omega) c, v, .inl rfl⟩
        · cases hf
  · intro hf
    cases i with
    | zero =>
      obtain ⟨rfl, rfl⟩ := I
      have e1 := eT (loT t (a + 0 + 1))
      have e2 := eT (hiT t (a + 0 + 1))
      refine ⟨_, a + 1, _, a + 1, ?_, ?_, srch_first (h := h) b3, ?_, ?_⟩
      · show some (_, _, _) = _
        rw [← e2]; simp
      · show some (_, _, _) = _
        rw [← e1]; simp
      · have := e2; simp only [Nat.add_zero] at this g2; rw [this]; exact g2
      · have := e1; simp only [Nat.add_zero] at this g1; rw [this]; exact g1
    | succ i =>
      obtain ⟨U, m, V, l, rfl, rfl, S, u, v⟩ := I
      have e1 := eT (loT t (a + (i + 1) + 1))
      have e2 := eT (hiT t (a + (i + 1) + 1))
      have eP : (a : Int) + 1 + ((i + 1 : Nat) : Int) = ((a + i + 1 + 1 : Nat) : Int) := by omega
      simp only [crossF] at hf
      split at hf
      · cases hf
      · rename_i c1
        split at hf
        · cases hf
        · rename_i c2
          have N := srch_next (h := h) (j := a + i + 1) (show loT t (a + i + 1 + 1) ≤ hiT t (a + i + 1 + 1) from b3) S (by rw [← e1] at c1; exact c1) (by rw [← e2] at c2; exact c2)
          have e1' : (loT t (a + i + 1 + 1) - h) / (((a + i + 1 + 1 : Nat) : Rat) - a) = (loT t (a + (i + 1) + 1) - h) / ((i + 1 + 1 : Nat) : Rat) := e1
          have e2' : (hiT t (a + i + 1 + 1) - h) / (((a + i + 1 + 1 : Nat) : Rat) - a) = (hiT t (a + (i + 1) + 1) - h) / ((i + 1 + 1 : Nat) : Rat) := e2
          rw [e1', e2'] at N
          rw [eP]
          have g1' : bd (D * K24) (M + M) ((loT t (a + (i + 1) + 1) - h) / ((i + 1 + 1 : Nat) : Rat)) := g1
          have g2' : bd (D * K24) (M + M) ((hiT t (a + (i + 1) + 1) - h) / ((i + 1 + 1 : Nat) : Rat)) := g2
          refine ⟨_, _, _, _, ?_, ?_, N, ?_, ?_⟩
          · simp only [takeM]
            by_cases c : U < (hiT t (a + (i + 1) + 1) - h) / ((i + 1 + 1 : Nat) : Rat)
            · simp only [if_pos c]
            · simp only [if_neg c]; rfl
          · simp only [takeL]
            by_cases c : (loT t (a + (i + 1) + 1) - h) / ((i + 1 + 1 : Nat) : Rat) < V
            · simp only [if_pos c]
            · simp only [if_neg c]; rfl
          · split
            · exact u
            · exact g2'
          · split
            · exact v
            · exact g1'
end DL

/-! DM7 -/
set_option exponentiation.threshold 100
namespace DL
open PySem PySem.Spec PyProof.Rows L2 LC

def G_touch : Gam := { ini := [(.Reach, "Reach", spI_Reach)], met := [(.Reach, "take", sp_take)], cls := [.Reach] }
theorem b_touch : Body G_touch 6 3 c_touch_behind sp_touch := ⟨by
  rintro _ R ⟨D, M, t, a, h, rfl, ⟨O, ha, hb⟩, hR⟩
  refine ⟨rfl, by simp, ?_⟩
  show wpSs _ _ [vT t, vI a, vN h, .non, .non, .non] _
  have hlen := O.len
  simp [c_touch_behind, G_touch, -o_ix]
  refine fr_rule ⟨intsL ((a : Int) + 1) (t.length - (a + 1)), []⟩ [vT t, vI a, vN h, vC a h none none, .non, .non] (fun K hK => ?_) rfl ?_
  · simp
    refine ⟨⟨by omega, by omega, by omega⟩, ?_⟩
    have : ((t.length : Int) - ((a : Int) + 1)).toNat = t.length - (a + 1) := by omega
    rw [this]; exact hK
  refine for_map (fun k : Nat => DL.D.int ((a : Int) + 1 + (k : Int))) (List.range (t.length - (a + 1))) (fun i ρ => ∃ Mo Lo s4 s5, ρ = [vT t, vI a, vN h, vC a h Mo Lo, s4, s5] ∧ RInv t D M a h Mo Lo i) ⟨none, none, .non, .non, rfl, rfl, rfl⟩ ?_ ?_
  · rintro i x ρ K hx ⟨Mo, Lo, s4, s5, rfl, I⟩
    refine ⟨still_nil _, fun hK => ?_⟩
    have hi : i < t.length - (a + 1) := by
      have := (List.getElem?_eq_some_iff.mp hx).1
      simpa using this
    have ex : x = i := by
      rw [List.getElem?_range hi] at hx
      exact (Option.some.inj hx).symm
    subst ex
    have hi' : a + x + 1 < t.length := by omega
    obtain ⟨T1, T2, T3⟩ := take_law O hb hi' I
    obtain ⟨p, p1, p2, _⟩ := O.at_ hi'
    have e1 : atI t ((a : Int) + 1 + (x : Int)) = some p := by
      rw [show (a : Int) + 1 + (x : Int) = ((a + x + 1 : Nat) : Int) by omega, atI_nat]; exact p1
    simp [frStep_eq, G_touch, -o_ix]
    refine ix_map (seq_T _ _) p e1 ?_
    simp [-o_ix]
    subst p2
    refine ⟨_, _, _, _, _, _, rfl, T1, ?_⟩
    cases hf : crossF Mo Lo (slp h (loT t (a + x + 1)) ((a : Int) + 1 + (x : Int)) a) (slp h (hiT t (a + x + 1)) ((a : Int) + 1 + (x : Int)) a) with
    | some f =>
      obtain ⟨s, m, y, rfl, Tt, b, w⟩ := T2 f hf
      simp [optD]
      exact hR s m y Tt b w
    | none =>
      have := T3 hf
      simp [optD]
      refine hK _ ⟨_, _, _, _, rfl, ?_⟩
      simpa only [nextM, nextL, hf] using this
  · rintro ρ ⟨Mo, Lo, s4, s5, rfl, I⟩
    refine ⟨still_nil _, ?_⟩
    rw [List.length_range] at I
    obtain ⟨j, hj⟩ : ∃ j, t.length - (a + 1) = j + 1 := ⟨t.length - (a + 1) - 1, by omega⟩
    rw [hj] at I
    obtain ⟨U, m, V, l, rfl, rfl, S, u, v⟩ := I
    simp [rch, optD]
    have en : a + j + 1 = t.length - 1 := by omega
    rw [en] at S
    exact hR U m (hiT t m) (touch_end S O.fin (by omega)) u (.inr rfl)⟩
end DL

/-! DM8 -/
set_option exponentiation.threshold 100
namespace DL
open PySem PySem.Spec PyProof.Rows L2 LC

/-! ## drawn_to -/
abbrev sL (q : List Rat) : Sl := .fd (.lst (q.map nD))
def seg (y s : Rat) (k : Nat) : List Rat := (List.range k).map fun (i : Nat) => y + s * ((i + 1 : Nat) : Rat)
theorem seg_succ (y s : Rat) (k : Nat) : seg y s (k + 1) = seg y s k ++ [y + s * ((k + 1 : Nat) : Rat)] := by
  unfold seg; rw [List.range_succ, List.map_append]; rfl
theorem seg_last {qs : List Rat} {y s : Rat} (hl : qs[qs.length - 1]? = some y) (h0 : qs ≠ []) (k : Nat) : (qs ++ seg y s k)[(qs ++ seg y s k).length - 1]? = some (y + s * (k : Rat)) := by
  cases k with
  | zero =>
    have : seg y s 0 = [] := rfl
    rw [this, List.append_nil, hl]
    simp
    grind
  | succ k =>
    rw [seg_succ, ← List.append_assoc]
    simp
def sp_drawn_to : Spec := fun ss R => ∃ (qs : List Rat) (s : Rat) (k : Nat) (y : Rat), ss = [sL qs, vN s, vI k] ∧ (qs[qs.length - 1]? = some y ∧ qs ≠ [] ∧ qs.length + k ≤ 1000 ∧ sm s ∧ ∀ i : Nat, i ≤ k → sm (y + s * (i : Rat))) ∧ R (.lst ((qs ++ seg y s k).map nD)) ss
def G_drawn_to : Gam := { fn := [("added", sp_added)] }
theorem b_drawn_to : Body G_drawn_to 5 3 c_drawn_to sp_drawn_to := ⟨by
  rintro _ R ⟨qs, s, k, y, rfl, ⟨h1, h2, h3, h4, h5⟩, hh⟩
  refine ⟨rfl, ⟨.inr rfl, by simp⟩, ?_⟩
  show wpSs _ _ [sL qs, vN s, vI k, .non, .non] _
  simp [c_drawn_to, G_drawn_to, -o_ix]
  refine fr_rule ⟨intsL 0 k, []⟩ [sL qs, vN s, vI k, sL qs, .non] (fun K hK => ?_) rfl ?_
  · simp
    exact ⟨by omega, hK⟩
  refine for_map (fun j : Nat => DL.D.int (0 + (j : Int))) (List.range k) (fun i ρ => ∃ s4, ρ = [sL qs, vN s, vI k, sL (qs ++ seg y s i), s4]) ⟨.non, by simp [seg]⟩ ?_ ?_
  · rintro i x ρ K hx ⟨s4, rfl⟩
    refine ⟨still_nil _, fun hK => ?_⟩
    have hi : i < k := by
      have := (List.getElem?_eq_some_iff.mp hx).1
      simpa using this
    have hne : qs ++ seg y s i ≠ [] := by simp [h2]
    have e1 : atI (qs ++ seg y s i) (-1) = some (y + s * (i : Rat)) := (atI_last _ hne).trans (seg_last h1 h2 i)
    simp only [frStep_eq, sL]
    simp [G_drawn_to, -o_ix, -List.map_append]
    refine ix_map (f := nD) (xs := qs ++ seg y s i) (by simp) _ e1 ?_
    simp [-o_ix, -List.map_append]
    refine ⟨h5 i (by omega), h4, ?_⟩
    have hl : (seg y s i).length = i := by simp [seg]
    refine ⟨by omega, hK _ ⟨.fd (.val (.int x)), ?_⟩⟩
    have e2 : y + s * ((i + 1 : Nat) : Rat) = y + s * (i : Rat) + s := by
      have : ((i + 1 : Nat) : Rat) = (i : Rat) + 1 := by simp
      rw [this]; grind
    have e3 : (qs ++ seg y s (i + 1)).map nD = (qs ++ seg y s i).map nD ++ [nD (y + s * (i : Rat) + s)] := by
      rw [seg_succ, e2, ← List.append_assoc, List.map_append (l₁ := qs ++ seg y s i)]
      rfl
    simp only [sL, e3]
  · rintro ρ ⟨s4, rfl⟩
    refine ⟨still_nil _, ?_⟩
    rw [List.length_range]
    simp [-List.map_append]
    exact hh⟩
end DL

/-! DM9 -/
set_option exponentiation.threshold 100
namespace DL
open PySem PySem.Spec PyProof.Rows L2 LC

/-! ## drawn -/
def at0 (qs : List Rat) (k : Nat) : Rat := qs.getD k 0
theorem grid_line {E : Nat} {y s : Rat} (hy : ∃ z : Int, y * (E : Rat) = (z : Rat)) (hs : ∃ z : Int, s * (E : Rat) = (z : Rat)) (i : Nat) : ∃ z : Int, (y + s * (i : Rat)) * (E : Rat) = (z : Rat) := by
  obtain ⟨z, hz⟩ := hy
  obtain ⟨w, hw⟩ := hs
  refine ⟨z + w * i, ?_⟩
  have : (y + s * (i : Rat)) * (E : Rat) = y * E + s * E * i := by grind
  rw [this, hz, hw]
  simp [nat_int]
theorem gap_at (a i : Nat) : ((a + i : Nat) : Rat) - (a : Rat) = (i : Rat) := by
  have e1 : ((a + i : Nat) : Rat) = (a : Rat) + i := by simp
  rw [e1]; grind
theorem at0_app1 {qs ws : List Rat} {k : Nat} (h : k < qs.length) : at0 (qs ++ ws) k = at0 qs k := by
  unfold at0; simp [List.getD, List.getElem?_append_left h, h]
theorem at0_app2 {qs : List Rat} {y s : Rat} {m i : Nat} (h : i < m) : at0 (qs ++ seg y s m) (qs.length + i) = y + s * ((i + 1 : Nat) : Rat) := by
  unfold at0 seg
  simp [List.getD, h]
/-- a row is lengthened by a touch -/
theorem draw_law {t : List (Rat × Rat)} {D M a m : Nat} {qs : List Rat} {s y : Rat} (O : TubOk D M t) (hl : qs.length = a + 1) (P : Part (loT t) (hiT t) (t.length - 1) a (at0 qs)) (T : Touch (loT t) (hiT t) (t.length - 1) a (at0 qs a) s m y)
    (b0 : bd D M (at0 qs a)) (bs : bd (D * K24) (M + M) s) (w : y = loT t m ∨ y = hiT t m) :
    (∀ i : Nat, i ≤ m - a → bd (D * K24) M (at0 qs a + s * (i : Rat))) ∧ Part (loT t) (hiT t) (t.length - 1) m (at0 (qs ++ seg (at0 qs a) s (m - a))) ∧ at0 (qs ++ seg (at0 qs a) s (m - a)) m = y ∧ bd D M y := by
  have hlt := T.lt
  have hle := T.le
  have h2 := O.len2
  have ok : ∀ k, k ≤ t.length - 1 → loT t k ≤ hiT t k := fun k hk => by
    obtain ⟨_, _, _, _, _, h⟩ := O.at_ (show k < t.length by omega); exact h
  have e2 : ∀ k : Nat, a < k → k ≤ m → at0 (qs ++ seg (at0 qs a) s (m - a)) k = at0 qs a + s * ((k : Rat) - a) := fun k k1 k2 => by
    obtain ⟨i, rfl⟩ : ∃ i, k = qs.length + i := ⟨k - qs.length, by omega⟩
    rw [at0_app2 (by omega)]
    congr 2
    rw [hl]
    have := gap_at a (i + 1)
    rw [show a + (i + 1) = a + 1 + i by omega] at this
    exact this.symm
  refine ⟨fun i hi => ?_, part_more ok P T (fun k hk => at0_app1 (by omega)) e2, ?_, ?_⟩
  · have g := grid_line (bd24 b0).1 bs.1 i
    by_cases hi0 : i = 0
    · subst hi0
      have := bd24 b0
      have e : at0 qs a + s * ((0 : Nat) : Rat) = at0 qs a := by simp; grind
      rw [e]; exact this
    · have T1 := T.inn (a + i) (by omega) (by omega)
      rw [gap_at] at T1
      obtain ⟨_, _, _, b1, b2, _⟩ := O.at_ (show a + i < t.length by omega)
      have l1 := b1.2.1
      have l2 := b2.2.2
      exact ⟨g, by grind, by grind⟩
  · rw [e2 m hlt (Nat.le_refl _)]; exact T.eq.symm
  · obtain ⟨_, _, _, b1, b2, _⟩ := O.at_ (show m < t.length by omega)
    rcases w with rfl | rfl
    · exact b1
    · exact b2
def sp_drawn : Spec := fun ss R => ∃ (D M : Nat) (t : List (Rat × Rat)), ss = [vT t] ∧ TubOk D M t ∧
  ∀ qs : List Rat, qs.length = t.length → Taut (loT t) (hiT t) (t.length - 1) (at0 qs) → (∀ q ∈ qs, bd (D * K24) M q) → R (.val (rowD qs)) ss
def G_drawn : Gam := { fn := [("drawn_to", sp_drawn_to), ("touch_behind", sp_touch)] }
/-- the row so far -/
structure DInv (D M : Nat) (t : List (Rat × Rat)) (a : Nat) (qs : List Rat) : Prop where
  len : qs.length = a + 1
  le : a + 1 ≤ t.length
  part : Part (loT t) (hiT t) (t.length - 1) a (at0 qs)
  bd0 : bd D M (at0 qs a)
  all : ∀ q ∈ qs, bd (D * K24) M q
theorem b_drawn : Body G_drawn 6 1 c_drawn sp_drawn := ⟨by
  rintro _ R ⟨D, M, t, rfl, O, hR⟩
  refine ⟨rfl, by simp, ?_⟩
  show wpSs _ _ [vT t, .non, .non, .non, .non, .non] _
  have h2 := O.len2
  have h3 := O.len
  obtain ⟨p, p1, p2, b1, _, b3⟩ := O.at_ (show 0 < t.length by omega)
  have e0 : atI t 0 = some p := (atI_nat t 0).trans p1
  simp [c_drawn, G_drawn, -o_ix]
  refine ix_map (seq_T _ _) p e0 ?_
  simp [-o_ix]
  refine whl_rule (fun m ρ => ∃ a qs s2 s3 s4 s5, ρ = [vT t, sL qs, s2, s3, s4, s5] ∧ m = t.length - qs.length ∧ DInv D M t a qs) (t.length - 1) ⟨0, [p.1], .non, .non, .non, .non, rfl, rfl, rfl, by omega, part_zero ?_, ?_, ?_⟩ ?_
  · subst p2; exact ⟨Rat.le_refl, b3⟩
  · subst p2; exact b1
  · intro q hq
    have : q = p.1 := by simpa using hq
    subst this; subst p2; exact bd24 b1
  rintro m ρ ⟨a, qs, s2, s3, s4, s5, rfl, rfl, I⟩
  have hl := I.len
  have hle := I.le
  simp [-o_ix]
  by_cases c : qs.length < t.length
  · simp [c, G_drawn, -o_ix]
    have ea : ((qs.length : Int) - 1) = (a : Int) := by omega
    rw [ea]
    have e1 : atI qs (a : Int) = some (at0 qs a) := by
      rw [atI_nat]
      unfold at0
      simp [List.getD, hl]
    refine ix_map (f := nD) (xs := qs) (by simp) _ e1 ?_
    simp [-o_ix]
    refine ⟨D, M, t, a, at0 qs a, rfl, ⟨O, by omega, I.bd0⟩, fun s m y T bs w => ?_⟩
    obtain ⟨L1, L2, L3, L4⟩ := draw_law O hl I.part T I.bd0 bs w
    have hlt := T.lt
    have hle2 := T.le
    have em : (m : Int) - (a : Int) = ((m - a : Nat) : Int) := by omega
    simp [tchD, G_drawn, -o_ix, em]
    refine ⟨qs, s, m - a, at0 qs a, rfl, ⟨?_, ?_, by omega, O.sm bs (by omega), fun i hi => O.sm (L1 i hi) (by omega)⟩, ?_⟩
    · rw [hl]
      unfold at0
      simp [List.getD, hl]
    · intro z; rw [z] at hl; simp at hl
    simp [-o_ix, -List.map_append]
    have hs : (seg (at0 qs a) s (m - a)).length = m - a := by simp [seg]
    refine ⟨t.length - (qs ++ seg (at0 qs a) s (m - a)).length, by rw [List.length_append, hs]; omega, m, qs ++ seg (at0 qs a) s (m - a), rfl, rfl, ?_⟩
    refine ⟨by rw [List.length_append, hs]; omega, by omega, L2, by rw [L3]; exact L4, fun q hq => ?_⟩
    rcases List.mem_append.mp hq with hq | hq
    · exact I.all q hq
    · unfold seg at hq
      obtain ⟨i, hi, rfl⟩ := List.mem_map.mp hq
      exact L1 (i + 1) (by have := List.mem_range.mp hi; omega)
  · simp [c, -o_ix]
    refine hR qs (by omega) ?_ I.all
    have : a = t.length - 1 := by omega
    subst this
    exact part_taut I.part⟩
end DL

/-! DM10 -/
set_option exponentiation.threshold 100
namespace DL
open PySem PySem.Spec PyProof.Rows L2 LC

/-! ## cord, steps -/
theorem TubOk.smB {D M : Nat} {t : List (Rat × Rat)} (O : TubOk D M t) {q : Rat} (h : bd D M q) : DL.sm q := O.sm (bd24 h) (by omega)
theorem TubOk.tied {D M : Nat} {t : List (Rat × Rat)} (O : TubOk D M t) : DL.tied t := by
  have h2 := O.len2
  refine ⟨⟨O.len2, O.len, fun p hp => ?_⟩, fun p hp => ?_, fun p hp => ?_⟩
  · obtain ⟨b1, b2, b3⟩ := O.bnd p hp
    exact ⟨O.smB b1, O.smB b2, b3⟩
  · have e := O.beg
    obtain ⟨q, q1, q2, _⟩ := O.at_ (show 0 < t.length by omega)
    rw [q1] at hp
    cases hp
    rw [q2]; exact e
  · have e := O.fin
    obtain ⟨q, q1, q2, _⟩ := O.at_ (show t.length - 1 < t.length by omega)
    rw [q1] at hp
    cases hp
    rw [q2]; exact e
def sp_cord : Spec := fun ss R => ∃ (D M : Nat) (t : List (Rat × Rat)), ss = [vT t] ∧ TubOk D M t ∧
  ∀ qs : List Rat, qs.length = t.length → Taut (loT t) (hiT t) (t.length - 1) (at0 qs) → (∀ q ∈ qs, bd (D * K24) M q) → R (.val (rowD qs)) ss
def G_cord : Gam := { fn := [("drawn", sp_drawn), ("check_tied", sp_check_tied)] }
theorem b_cord : Body G_cord 1 1 c_cord sp_cord := ⟨by
  rintro _ R ⟨D, M, t, rfl, O, hR⟩
  refine ⟨rfl, by simp, ?_⟩
  show wpSs _ _ [vT t] _
  simp [c_cord, G_cord]
  refine ⟨O.tied, ⟨D, M, t, rfl, O, fun qs h1 h2 h3 => ?_⟩⟩
  simp
  exact hR qs h1 h2 h3⟩
/-- the steps of a row -/
def stepsL (qs : List Rat) : List Rat := (List.range (qs.length - 1)).map fun k => at0 qs (k + 1) - at0 qs k
def sp_steps : Spec := fun ss R => ∃ qs : List Rat, ss = [vR qs] ∧ (2 ≤ qs.length ∧ qs.length ≤ 25 ∧ ∀ q ∈ qs, sm q) ∧ R (.val (rowD (stepsL qs))) ss
@[simp ↓, simp] theorem steps_eq (qs : List Rat) (R : Fd → List Sl → Prop) : sp_steps [vR qs] R = ((2 ≤ qs.length ∧ qs.length ≤ 25 ∧ ∀ q ∈ qs, sm q) ∧ R (.val (rowD (stepsL qs))) [vR qs]) := ex1 vR_inj qs
def G_steps : Gam := { fn := [("taken", sp_taken), ("check_plain_row", sp_check_plain_row)] }
theorem b_steps : Body G_steps 2 1 c_steps sp_steps := ⟨by
  rintro _ R ⟨qs, rfl, ⟨h1, h2, h3⟩, h⟩
  refine ⟨rfl, by simp, ?_⟩
  show wpSs _ _ [vR qs, .non] _
  simp [c_steps, G_steps, -o_ix]
  refine ⟨⟨h1, h2⟩, ?_⟩
  refine lc_all [vR qs, .non] [] (fun k : Nat => DL.D.int (0 + (k : Int))) (fun k : Nat => nD (at0 qs (k + 1) - at0 qs k)) (List.range (qs.length - 1)) (fun K hK => ?_) (by simp; omega) (still_nil _) (fun k hk K hK => ?_) ?_
  · simp
    exact ⟨by omega, hK⟩
  · have hk' := List.mem_range.mp hk
    have g : ∀ j : Nat, j < qs.length → atI qs (j : Int) = some (at0 qs j) ∧ sm (at0 qs j) := fun j hj => by
      have e : at0 qs j = qs[j] := by unfold at0; simp [List.getD, hj]
      rw [e]
      exact ⟨(atI_nat qs j).trans (List.getElem?_eq_getElem hj), h3 _ (List.getElem_mem hj)⟩
    obtain ⟨a1, a2⟩ := g (k + 1) (by omega)
    obtain ⟨b1, b2⟩ := g k (by omega)
    simp [lcStep_eq, -o_ix] at hK ⊢
    refine ix_map (seq_R _ _) _ (by rw [show (k : Int) + 1 = ((k + 1 : Nat) : Int) by omega]; exact a1) ?_
    simp [-o_ix]
    refine ix_map (seq_R _ _) _ b1 ?_
    simp [-o_ix]
    exact ⟨a2, b2, hK⟩
  · simp [-o_ix]
    unfold stepsL rowD at h
    rw [List.map_map] at h
    exact h⟩
end DL

/-! DM11 -/
set_option exponentiation.threshold 100
namespace DL
open PySem PySem.Spec PyProof.Rows L2 LC

/-! ## smoothing: checks -/
theorem sm0 : sm 0 := ⟨by show 0 < 2 ^ 2000; exact Nat.two_pow_pos _, by show 1 < 2 ^ 2000; exact Nat.one_lt_two_pow (by decide)⟩
def sp_is_price : Spec := fun ss R => ∃ p : Rat, ss = [vN p] ∧ (sm p ∧ 0 ≤ p) ∧ R (.val (.bl true)) ss
@[simp ↓, simp] theorem is_price_eq (p : Rat) (R : Fd → List Sl → Prop) : sp_is_price [vN p] R = ((sm p ∧ 0 ≤ p) ∧ R (.val (.bl true)) [vN p]) := ex1 vN_inj p
def G_is_price : Gam := { fn := [("is_number", sp_is_number), ("is_less", sp_is_less)], cst := [("NOUGHT", nD 0)] }
theorem b_is_price : Body G_is_price 1 1 c_is_price sp_is_price := ⟨by
  rintro _ R ⟨p, rfl, ⟨h1, h2⟩, h⟩
  refine ⟨rfl, by simp, ?_⟩
  show wpSs _ _ [vN p] _
  have : ¬ p < 0 := Rat.not_lt.mpr h2
  simp [c_is_price, G_is_price, this, h1, sm0]
  exact h⟩
def sp_check_price : Spec := fun ss R => ∃ p : Rat, ss = [vN p] ∧ (sm p ∧ 0 ≤ p) ∧ R (.val .non) ss
@[simp ↓, simp] theorem check_price_eq (p : Rat) (R : Fd → List Sl → Prop) : sp_check_price [vN p] R = ((sm p ∧ 0 ≤ p) ∧ R (.val .non) [vN p]) := ex1 vN_inj p
def G_check_price' (x : Str) : Gam := { fn := [(x, sp_is_price)] }
abbrev G_check_price : Gam := G_check_price' "is_price"
theorem b_check_price' (x : Str) : Body (G_check_price' x) 1 1 c_check_price sp_check_price := ⟨by
  rintro _ R ⟨p, rfl, ⟨h1, h2⟩, h⟩
  refine ⟨rfl, by simp, ?_⟩
  show wpSs _ _ [vN p] _
  simp [c_check_price, G_check_price', h1, h2]
  exact h⟩
theorem b_check_price : Body G_check_price 1 1 c_check_price sp_check_price := b_check_price' "is_price"
def sp_check_data : Spec := fun ss R => ∃ q : List Rat, ss = [vR q] ∧ (1 ≤ q.length ∧ q.length ≤ 24) ∧ R (.val .non) ss
@[simp ↓, simp] theorem check_data_eq (q : List Rat) (R : Fd → List Sl → Prop) : sp_check_data [vR q] R = ((1 ≤ q.length ∧ q.length ≤ 24) ∧ R (.val .non) [vR q]) := ex1 vR_inj q
def G_check_data' (x : Str) : Gam := { fn := [(x, sp_are_numbers)], cst := [("MOST_PLACES", .int 25)] }
abbrev G_check_data : Gam := G_check_data' "are_numbers"
theorem b_check_data' (x : Str) : Body (G_check_data' x) 1 1 c_check_data sp_check_data := ⟨by
  rintro _ R ⟨q, rfl, ⟨h1, h2⟩, h⟩
  refine ⟨rfl, by simp, ?_⟩
  show wpSs _ _ [vR q] _
  simp [c_check_data, G_check_data']
  exact ⟨⟨by omega, by omega, by omega⟩, h⟩⟩
theorem b_check_data : Body G_check_data 1 1 c_check_data sp_check_data := b_check_data' "are_numbers"
end DL

/-! DM12 -/
set_option exponentiation.threshold 100
namespace DL
open PySem PySem.Spec PyProof.Rows L2 LC

/-! ## tube_of -/
def Sm (q : List Rat) (k : Nat) : Rat := sumL (q.take k)
theorem Sm_succ {q : List Rat} {k : Nat} {x : Rat} (h : q[k]? = some x) : Sm q (k + 1) = Sm q k + x := by
  unfold Sm
  have hl := (List.getElem?_eq_some_iff.mp h).1
  rw [List.take_succ, h, sumL_append]
  simp only [Option.toList, sumL]
  grind
/-- the tube so far -/
def fnd (q : List Rat) (lo hi : Rat) (k : Nat) : List (Rat × Rat) := (0, 0) :: (List.range k).map fun i => (Sm q (i + 1) + lo, Sm q (i + 1) + hi)
theorem fnd_succ (q : List Rat) (lo hi : Rat) (k : Nat) : fnd q lo hi (k + 1) = fnd q lo hi k ++ [(Sm q (k + 1) + lo, Sm q (k + 1) + hi)] := by
  unfold fnd; rw [List.range_succ, List.map_append]; rfl
theorem fnd_length (q : List Rat) (lo hi : Rat) (k : Nat) : (fnd q lo hi k).length = k + 1 := by simp [fnd]
def smTube (q : List Rat) (p : Rat) : List (Rat × Rat) := (fnd q (-p) p q.length).set q.length (Sm q q.length, Sm q q.length)
abbrev sP (t : List (Rat × Rat)) : Sl := .fd (.lst (t.map pairD))
def sp_tube_of : Spec := fun ss R => ∃ (q : List Rat) (p : Rat), ss = [vR q, vN p] ∧ (1 ≤ q.length ∧ q.length ≤ 24 ∧ sm p ∧ 0 ≤ p ∧ (∀ x ∈ q, sm x) ∧ ∀ k, k ≤ q.length → sm (Sm q k)) ∧ R (.val (tubeD (smTube q p))) ss
def G_tube_of : Gam := { fn := [("added", sp_added), ("taken", sp_taken), ("check_price", sp_check_price), ("check_data", sp_check_data)], cst := [("NOUGHT", nD 0)] }
theorem b_tube_of : Body G_tube_of 5 2 c_tube_of sp_tube_of := ⟨by
  rintro _ R ⟨q, p, rfl, ⟨h1, h2, h3, h4, h5, h6⟩, h⟩
  refine ⟨rfl, by simp, ?_⟩
  show wpSs _ _ [vR q, vN p, .non, .non, .non] _
  simp [c_tube_of, G_tube_of, h1, h2, h3, h4]
  refine fr_rule ⟨q.map nD, []⟩ [vR q, vN p, sP (fnd q (-p) p 0), vN 0, .non] (fun K hK => ?_) rfl ?_
  · simp
    exact hK
  refine for_map nD q (fun i ρ => ∃ s4, ρ = [vR q, vN p, sP (fnd q (-p) p i), vN (Sm q i), s4]) ⟨.non, rfl⟩ ?_ ?_
  · rintro i x ρ K hx ⟨s4, rfl⟩
    refine ⟨still_nil _, fun hK => ?_⟩
    have hi := (List.getElem?_eq_some_iff.mp hx).1
    have hs := Sm_succ hx
    simp [frStep_eq, G_tube_of]
    refine ⟨h6 i (by omega), h5 x (List.mem_of_getElem? hx), ?_⟩
    rw [← hs]
    simp [h3, h6 (i + 1) (by omega)]
    refine ⟨by rw [fnd_length]; omega, hK _ ⟨.fd (.val (nD x)), ?_⟩⟩
    have e3 : (fnd q (-p) p (i + 1)).map pairD = (fnd q (-p) p i).map pairD ++ [.tup [nD (Sm q (i + 1) - p), nD (Sm q (i + 1) + p)]] := by
      rw [fnd_succ, List.map_append, Rat.sub_eq_add_neg]
      rfl
    simp only [sP, e3]
  · rintro ρ ⟨s4, rfl⟩
    refine ⟨still_nil _, ?_⟩
    simp
    refine ⟨q.length, ⟨by rw [fnd_length]; omega, by rw [fnd_length]; omega⟩, ?_⟩
    have e3 : ((fnd q (-p) p q.length).map pairD).set q.length (.tup [nD (Sm q q.length), nD (Sm q q.length)]) = (smTube q p).map pairD := by
      unfold smTube
      rw [List.map_set]
      rfl
    rw [e3]
    exact h⟩
end DL

/-! DM13 -/
set_option exponentiation.threshold 100
namespace DL
open PySem PySem.Spec PyProof.Rows L2 LC

/-! ## smoothed -/
theorem fnd_at (q : List Rat) (lo hi : Rat) {n k : Nat} (hk : k < n) : (fnd q lo hi n)[k + 1]? = some (Sm q (k + 1) + lo, Sm q (k + 1) + hi) := by
  unfold fnd
  simp [hk]
theorem Sm_zero (q : List Rat) : Sm q 0 = 0 := rfl
theorem smTube_at (q : List Rat) (p : Rat) (h1 : 1 ≤ q.length) {k : Nat} (hk : k ≤ q.length) : (smTube q p)[k]? = some (if 0 < k ∧ k < q.length then Sm q k - p else Sm q k, if 0 < k ∧ k < q.length then Sm q k + p else Sm q k) := by
  unfold smTube
  by_cases c : k = q.length
  · subst c
    rw [List.getElem?_set_self (by rw [fnd_length]; omega), if_neg (by omega), if_neg (by omega)]
  · rw [List.getElem?_set_ne (by omega)]
    cases k with
    | zero => rw [if_neg (by omega), if_neg (by omega)]; rfl
    | succ k =>
      rw [fnd_at q _ _ (by omega), if_pos (by omega), if_pos (by omega), Rat.sub_eq_add_neg]
theorem smTube_length (q : List Rat) (p : Rat) : (smTube q p).length = q.length + 1 := by
  unfold smTube; rw [List.length_set, fnd_length]
theorem smTube_lo (q : List Rat) (p : Rat) (h1 : 1 ≤ q.length) {k : Nat} (hk : k ≤ q.length) : loT (smTube q p) k = (if 0 < k ∧ k < q.length then Sm q k - p else Sm q k) ∧ hiT (smTube q p) k = (if 0 < k ∧ k < q.length then Sm q k + p else Sm q k) := by
  have e := smTube_at q p h1 hk
  unfold loT hiT
  rw [List.getD, e]
  exact ⟨rfl, rfl⟩
structure SmOk (D M : Nat) (q : List Rat) (p : Rat) : Prop where
  l1 : 1 ≤ q.length
  l2 : q.length ≤ 24
  d0 : 0 < D
  dd : D * K24 < 2 ^ 1000
  mm : 4 * (M + M) * (D * K24) < 2 ^ 2000
  p0 : 0 ≤ p
  bp : bd D M p
  bx : ∀ x ∈ q, bd D M x
  bS : ∀ k, k ≤ q.length → bd D M (Sm q k)
theorem SmOk.tub {D M : Nat} {q : List Rat} {p : Rat} (O : SmOk D M q p) : TubOk D (M + M) (smTube q p) where
  len2 := by rw [smTube_length]; have := O.l1; omega
  len := by rw [smTube_length]; have := O.l2; omega
  d0 := O.d0
  dd := O.dd
  mm := O.mm
  bnd := fun r hr => by
    obtain ⟨k, hk⟩ := List.mem_iff_getElem?.mp hr
    have hl := (List.getElem?_eq_some_iff.mp hk).1
    rw [smTube_length] at hl
    rw [smTube_at q p O.l1 (by omega)] at hk
    cases hk
    have b := O.bS k (by omega)
    have p0 := O.p0
    by_cases c : 0 < k ∧ k < q.length
    · simp only [if_pos c]
      exact ⟨bd_sub b O.bp, bd_add b O.bp, by grind⟩
    · simp only [if_neg c]
      exact ⟨bd_le b (by omega), bd_le b (by omega), Rat.le_refl⟩
  beg := by
    obtain ⟨h1, h2⟩ := smTube_lo q p O.l1 (Nat.zero_le _)
    rw [h1, h2, if_neg (by omega), if_neg (by omega)]
  fin := by
    rw [smTube_length]
    obtain ⟨h1, h2⟩ := smTube_lo q p O.l1 (Nat.le_refl q.length)
    show loT (smTube q p) q.length = hiT (smTube q p) q.length
    rw [h1, h2, if_neg (by omega), if_neg (by omega)]
def sp_smoothed : Spec := fun ss R => ∃ (D M : Nat) (q : List Rat) (p : Rat), ss = [vR q, vN p] ∧ SmOk D M q p ∧
  ∀ row : List Rat, row.length = q.length + 1 → Taut (loT (smTube q p)) (hiT (smTube q p)) q.length (at0 row) → (∀ y ∈ row, bd (D * K24) (M + M) y) → R (.val (rowD (stepsL row))) ss
def G_smoothed : Gam := { fn := [("steps", sp_steps), ("cord", sp_cord), ("tube_of", sp_tube_of)] }
theorem b_smoothed : Body G_smoothed 2 2 c_smoothed sp_smoothed := ⟨by
  rintro _ R ⟨D, M, q, p, rfl, O, hR⟩
  refine ⟨rfl, by simp, ?_⟩
  show wpSs _ _ [vR q, vN p] _
  have T := O.tub
  have s1 : ∀ {x : Rat}, bd D M x → sm x := fun h => T.smB (bd_le h (by omega))
  simp [c_smoothed, G_smoothed]
  refine ⟨q, p, rfl, ⟨O.l1, O.l2, s1 O.bp, O.p0, fun x hx => s1 (O.bx x hx), fun k hk => s1 (O.bS k hk)⟩, ?_⟩
  simp
  refine ⟨D, M + M, smTube q p, rfl, T, fun row h1 h2 h3 => ?_⟩
  rw [smTube_length] at h1 h2
  have := O.l1
  have := O.l2
  simp
  exact ⟨⟨by omega, by omega, fun y hy => T.sm (h3 y hy) (by omega)⟩, hR row h1 h2 h3⟩⟩
end DL

/-! DM14 -/
set_option exponentiation.threshold 100
namespace DL
open PySem PySem.Spec PyProof.Rows L2 LC

/-! ## stores -/
def sp_is_amount : Spec := fun ss R => ∃ p : Rat, ss = [vN p] ∧ 0 ≤ p ∧ R (.val (.bl true)) ss
@[simp ↓, simp] theorem is_amount_eq (p : Rat) (R : Fd → List Sl → Prop) : sp_is_amount [vN p] R = (0 ≤ p ∧ R (.val (.bl true)) [vN p]) := ex1 vN_inj p
def G_is_amount : Gam := { fn := [("is_number", sp_is_number)] }
theorem b_is_amount : Body G_is_amount 1 1 c_is_amount sp_is_amount := ⟨by
  rintro _ R ⟨p, rfl, h1, h⟩
  refine ⟨rfl, by simp, ?_⟩
  show wpSs _ _ [vN p] _
  have : 0 ≤ p.num := Rat.num_nonneg.mpr h1
  simp [c_is_amount, G_is_amount, this]
  exact h⟩
def sp_check_store : Spec := fun ss R => ∃ (q : List Rat) (p : Rat), ss = [vR q, vN p] ∧ (1 ≤ q.length ∧ q.length ≤ 24 ∧ 0 ≤ p ∧ ∀ x ∈ q, 0 ≤ x) ∧ R (.val .non) ss
@[simp ↓, simp] theorem check_store_eq (q : List Rat) (p : Rat) (R : Fd → List Sl → Prop) : sp_check_store [vR q, vN p] R = ((1 ≤ q.length ∧ q.length ≤ 24 ∧ 0 ≤ p ∧ ∀ x ∈ q, 0 ≤ x) ∧ R (.val .non) [vR q, vN p]) := ex2 vR_inj vN_inj q p
def G_check_store : Gam := { fn := [("is_amount", sp_is_amount)], cst := [("MOST_NEEDS", .int 24)] }
theorem b_check_store : Body G_check_store 3 2 c_check_store sp_check_store := ⟨by
  rintro _ R ⟨q, p, rfl, ⟨h1, h2, h3, h4⟩, h⟩
  refine ⟨rfl, by simp, ?_⟩
  show wpSs _ _ [vR q, vN p, .non] _
  have e1 : (1 : Int) ≤ (q.length : Int) := by omega
  have e2 : (q.length : Int) ≤ 24 := by omega
  simp [c_check_store, G_check_store, e1, e2]
  refine lc_all [vR q, vN p, .non] [] nD (fun _ => .bl true) q (fun K hK => by simp; exact hK) (by omega) (still_nil _) (fun x hx K hK => ?_) ?_
  · simp [lcStep_eq] at hK ⊢
    exact ⟨h4 x hx, hK⟩
  · simp
    refine all_true q _ ?_
    simp [all_tt, h3]
    exact h⟩
theorem cut_map {α : Type} (f : α → DL.D) (xs : List α) (lo hi : Option Int) : cut (xs.map f) lo hi = (cut xs lo hi).map f := by
  unfold cut
  rw [List.length_map, List.map_take, List.map_drop]
theorem sl_map {α : Type} {ρ : Env} {a : Ev} {f : α → DL.D} {xs : List α} {lo hi : Option Int} {Q : QE} (h : dof ρ a = some (.lst (xs.map f))) (hq : Q (.tmp ((cut xs lo hi).map f)) ρ) : wpSl ρ a lo hi Q := by
  unfold wpSl
  rw [h, ← cut_map] at *
  exact hq
theorem cut_front {α : Type} (xs : List α) (h : xs ≠ []) : cut xs none (some (-1)) = xs.take (xs.length - 1) := by
  have hl := List.length_pos_iff.mpr h
  unfold cut HT.sIx
  simp
  omega
def stTube (q : List Rat) (p : Rat) : List (Rat × Rat) := (fnd q 0 p q.length).set q.length (Sm q q.length, Sm q q.length)
def sp_store_tube : Spec := fun ss R => ∃ (q : List Rat) (p : Rat), ss = [vR q, vN p] ∧ (1 ≤ q.length ∧ q.length ≤ 24 ∧ sm p ∧ 0 ≤ p ∧ (∀ x ∈ q, sm x ∧ 0 ≤ x) ∧ ∀ k, k ≤ q.length → sm (Sm q k)) ∧ R (.val (tubeD (stTube q p))) ss
def G_store_tube : Gam := { fn := [("added", sp_added), ("check_store", sp_check_store)], cst := [("NOUGHT", nD 0)] }
theorem b_store_tube : Body G_store_tube 5 2 c_store_tube sp_store_tube := ⟨by
  rintro _ R ⟨q, p, rfl, ⟨h1, h2, h3, h4, h5, h6⟩, h⟩
  refine ⟨rfl, by simp, ?_⟩
  show wpSs _ _ [vR q, vN p, .non, .non, .non] _
  simp [c_store_tube, G_store_tube, h1, h2, h3, h4]
  refine ⟨fun x hx => (h5 x hx).2, ?_⟩
  refine fr_rule ⟨q.map nD, []⟩ [vR q, vN p, vN 0, sP (fnd q 0 p 0), .non] (fun K hK => ?_) rfl ?_
  · simp
    exact hK
  refine for_map nD q (fun i ρ => ∃ s4, ρ = [vR q, vN p, vN (Sm q i), sP (fnd q 0 p i), s4]) ⟨.non, rfl⟩ ?_ ?_
  · rintro i x ρ K hx ⟨s4, rfl⟩
    refine ⟨still_nil _, fun hK => ?_⟩
    have hi := (List.getElem?_eq_some_iff.mp hx).1
    have hs := Sm_succ hx
    simp [frStep_eq, G_store_tube]
    refine ⟨h6 i (by omega), (h5 x (List.mem_of_getElem? hx)).1, ?_⟩
    rw [← hs]
    simp [h3, h6 (i + 1) (by omega)]
    refine ⟨by rw [fnd_length]; omega, hK _ ⟨.fd (.val (nD x)), ?_⟩⟩
    have e3 : (fnd q 0 p (i + 1)).map pairD = (fnd q 0 p i).map pairD ++ [.tup [nD (Sm q (i + 1)), nD (Sm q (i + 1) + p)]] := by
      rw [fnd_succ, List.map_append, Rat.add_zero]
      rfl
    simp only [sP, e3]
  · rintro ρ ⟨s4, rfl⟩
    refine ⟨still_nil _, ?_⟩
    simp
    refine sl_map (f := pairD) (xs := fnd q 0 p q.length) (by simp) ?_
    rw [cut_front _ (by simp [fnd]), fnd_length]
    simp
    refine ⟨by omega, ?_⟩
    have e3 : ((fnd q 0 p q.length).take q.length).map pairD ++ [.tup [nD (Sm q q.length), nD (Sm q q.length)]] = (stTube q p).map pairD := by
      unfold stTube
      have hl : (fnd q 0 p q.length).length = q.length + 1 := fnd_length q 0 p q.length
      have e4 : ∀ {xs : List (Rat × Rat)} {n : Nat} {y : Rat × Rat}, xs.length = n + 1 → xs.take n ++ [y] = xs.set n y := fun {xs n y} hx => by
        rw [List.set_eq_take_append_cons_drop, if_pos (by omega), List.drop_eq_nil_of_le (by omega)]
      rw [← e4 hl, List.map_append]
      rfl
    first
      | (rw [e3]; exact h)
      | (rw [List.map_take] at e3; rw [e3]; exact h)⟩
end DL

/-! DM15 -/
set_option exponentiation.threshold 100
namespace DL
open PySem PySem.Spec PyProof.Rows L2 LC

/-! ## bought -/
theorem stTube_at (q : List Rat) (p : Rat) (h1 : 1 ≤ q.length) {k : Nat} (hk : k ≤ q.length) : (stTube q p)[k]? = some (Sm q k, if 0 < k ∧ k < q.length then Sm q k + p else Sm q k) := by
  unfold stTube
  by_cases c : k = q.length
  · subst c
    rw [List.getElem?_set_self (by rw [fnd_length]; omega), if_neg (by omega)]
  · rw [List.getElem?_set_ne (by omega)]
    cases k with
    | zero => rw [if_neg (by omega)]; rfl
    | succ k => rw [fnd_at q _ _ (by omega), if_pos (by omega), Rat.add_zero]
theorem stTube_length (q : List Rat) (p : Rat) : (stTube q p).length = q.length + 1 := by
  unfold stTube; rw [List.length_set, fnd_length]
theorem stTube_lo (q : List Rat) (p : Rat) (h1 : 1 ≤ q.length) {k : Nat} (hk : k ≤ q.length) : loT (stTube q p) k = Sm q k ∧ hiT (stTube q p) k = (if 0 < k ∧ k < q.length then Sm q k + p else Sm q k) := by
  have e := stTube_at q p h1 hk
  unfold loT hiT
  rw [List.getD, e]
  exact ⟨rfl, rfl⟩
structure StOk (D M : Nat) (q : List Rat) (p : Rat) : Prop where
  ok : SmOk D M q p
  x0 : ∀ x ∈ q, 0 ≤ x
theorem StOk.tub {D M : Nat} {q : List Rat} {p : Rat} (O : StOk D M q p) : TubOk D (M + M) (stTube q p) where
  len2 := by rw [stTube_length]; have := O.ok.l1; omega
  len := by rw [stTube_length]; have := O.ok.l2; omega
  d0 := O.ok.d0
  dd := O.ok.dd
  mm := O.ok.mm
  bnd := fun r hr => by
    obtain ⟨k, hk⟩ := List.mem_iff_getElem?.mp hr
    have hl := (List.getElem?_eq_some_iff.mp hk).1
    rw [stTube_length] at hl
    rw [stTube_at q p O.ok.l1 (by omega)] at hk
    cases hk
    have b := O.ok.bS k (by omega)
    have p0 := O.ok.p0
    by_cases c : 0 < k ∧ k < q.length
    · simp only [if_pos c]
      exact ⟨bd_le b (by omega), bd_add b O.ok.bp, by grind⟩
    · simp only [if_neg c]
      exact ⟨bd_le b (by omega), bd_le b (by omega), Rat.le_refl⟩
  beg := by
    obtain ⟨h1, h2⟩ := stTube_lo q p O.ok.l1 (Nat.zero_le _)
    rw [h1, h2, if_neg (by omega)]
  fin := by
    rw [stTube_length]
    obtain ⟨h1, h2⟩ := stTube_lo q p O.ok.l1 (Nat.le_refl q.length)
    show loT (stTube q p) q.length = hiT (stTube q p) q.length
    rw [h1, h2, if_neg (by omega)]
def sp_bought : Spec := fun ss R => ∃ (D M : Nat) (q : List Rat) (p : Rat), ss = [vR q, vN p] ∧ StOk D M q p ∧
  ∀ row : List Rat, row.length = q.length + 1 → Taut (loT (stTube q p)) (hiT (stTube q p)) q.length (at0 row) → (∀ y ∈ row, bd (D * K24) (M + M) y) → R (.val (rowD (stepsL row))) ss
def G_bought : Gam := { fn := [("steps", sp_steps), ("cord", sp_cord), ("store_tube", sp_store_tube)] }
theorem b_bought : Body G_bought 2 2 c_bought sp_bought := ⟨by
  rintro _ R ⟨D, M, q, p, rfl, O, hR⟩
  refine ⟨rfl, by simp, ?_⟩
  show wpSs _ _ [vR q, vN p] _
  have T := O.tub
  have s1 : ∀ {x : Rat}, bd D M x → sm x := fun h => T.smB (bd_le h (by omega))
  simp [c_bought, G_bought]
  refine ⟨q, p, rfl, ⟨O.ok.l1, O.ok.l2, s1 O.ok.bp, O.ok.p0, fun x hx => ⟨s1 (O.ok.bx x hx), O.x0 x hx⟩, fun k hk => s1 (O.ok.bS k hk)⟩, ?_⟩
  simp
  refine ⟨D, M + M, stTube q p, rfl, T, fun row h1 h2 h3 => ?_⟩
  rw [stTube_length] at h1 h2
  have := O.ok.l1
  have := O.ok.l2
  simp
  exact ⟨⟨by omega, by omega, fun y hy => T.sm (h3 y hy) (by omega)⟩, hR row h1 h2 h3⟩⟩
end DL

/-! DM16 -/
set_option exponentiation.threshold 100
namespace DL
open PySem PySem.Spec PyProof.Rows L2 LC

/-! ## falling -/
abbrev iD' (k : Nat) : DL.D := .int (k : Int)
abbrev sI (o : List Nat) : Sl := .fd (.lst (o.map iD'))
def sp_falling : Spec := fun ss R => ∃ xs : List Rat, ss = [sL xs] ∧ (xs.length ≤ 1000 ∧ ∀ x ∈ xs, sm x) ∧ ∀ ord : List Nat, ord.Perm (List.range xs.length) → Falling (ord.map (at0 xs)) → R (.lst (ord.map iD')) ss
def G_falling : Gam := { fn := [("is_less", sp_is_less)] }
theorem atI_at0 {xs : List Rat} {k : Nat} (h : k < xs.length) : atI xs (k : Int) = some (at0 xs k) := by
  rw [atI_nat]; unfold at0; simp [List.getD, h]
theorem sm_at0 {xs : List Rat} (hs : ∀ x ∈ xs, sm x) {k : Nat} (h : k < xs.length) : sm (at0 xs k) := by
  have e : at0 xs k = xs[k] := by unfold at0; simp [List.getD, h]
  rw [e]; exact hs _ (List.getElem_mem h)
theorem b_falling : Body G_falling 4 1 c_falling sp_falling := ⟨by
  rintro _ R ⟨xs, rfl, ⟨hl, hs⟩, hR⟩
  refine ⟨rfl, ⟨.inr rfl, by simp⟩, ?_⟩
  show wpSs _ _ [sL xs, .non, .non, .non] _
  simp [c_falling, G_falling, -o_ix]
  refine fr_rule ⟨intsL 0 xs.length, []⟩ [sL xs, sI [], .non, .non] (fun K hK => ?_) rfl ?_
  · simp
    exact ⟨by omega, hK⟩
  refine for_map (fun j : Nat => DL.D.int (0 + (j : Int))) (List.range xs.length) (fun i ρ => ∃ ord s2 s3, ρ = [sL xs, sI ord, s2, s3] ∧ ord.Perm (List.range i) ∧ Falling (ord.map (at0 xs))) ⟨[], .non, .non, rfl, List.Perm.refl _, List.Pairwise.nil⟩ ?_ ?_
  · rintro i x ρ K hx ⟨ord, s2, s3, rfl, hp, hf⟩
    refine ⟨still_nil _, fun hK => ?_⟩
    have hi : i < xs.length := by
      have := (List.getElem?_eq_some_iff.mp hx).1
      simpa using this
    have ex : x = i := by
      rw [List.getElem?_range hi] at hx
      exact (Option.some.inj hx).symm
    subst ex
    have ho : ord.length = x := by rw [hp.length_eq, List.length_range]
    simp [frStep_eq, G_falling, -o_ix]
    refine whl_rule (fun m ρ => ∃ p : Nat, ρ = [sL xs, sI ord, vI x, vI p] ∧ m = ord.length - p ∧ p ≤ ord.length ∧ ∀ j, (h : j < p) → ∀ h2 : j < ord.length, at0 xs x ≤ at0 xs ord[j]) ord.length ⟨0, rfl, rfl, Nat.zero_le _, fun j h => by omega⟩ ?_
    rintro m ρ ⟨p, rfl, rfl, h1, h2⟩
    simp [G_falling, -o_ix]
    have fin : (∀ h : p < ord.length, at0 xs ord[p] ≤ at0 xs x) → K [sL xs, .fd (.lst ((ord.map iD').take p ++ DL.D.int x :: (ord.map iD').drop p)), vI x, vI p] := fun hq => by
      refine hK _ ⟨ord.take p ++ x :: ord.drop p, vI x, vI p, ?_, perm_insert hp, falling_insert hf h1 h2 hq⟩
      have e3 : (ord.take p ++ x :: ord.drop p).map iD' = (ord.map iD').take p ++ DL.D.int x :: (ord.map iD').drop p := by
        rw [List.map_append, List.map_cons, List.map_take, List.map_drop]
      simp only [sI, e3]
    by_cases c : p < ord.length
    · have hm : ord[p] < x := by
        have := (hp.mem_iff (a := ord[p])).mp (List.getElem_mem c)
        exact List.mem_range.mp this
      simp [c, G_falling, -o_ix]
      refine ix_map (f := iD') (xs := ord) (by simp) ord[p] ((atI_nat ord p).trans (List.getElem?_eq_getElem c)) ?_
      refine ix_map (f := nD) (xs := xs) (by simp) _ (atI_at0 (show ord[p] < xs.length by omega)) ?_
      simp [-o_ix]
      refine ix_map (f := nD) (xs := xs) (by simp) _ (atI_at0 hi) ?_
      simp [-o_ix]
      refine ⟨sm_at0 hs (by omega), sm_at0 hs hi, ?_⟩
      by_cases c2 : at0 xs ord[p] < at0 xs x
      · simp [c2, -o_ix]
        exact ⟨⟨by omega, by omega⟩, fin fun _ => Rat.le_of_lt c2⟩
      · simp [c2, -o_ix]
        refine ⟨ord.length - (p + 1), by omega, p + 1, by simp, rfl, by omega, fun j hj hj2 => ?_⟩
        by_cases c3 : j < p
        · exact h2 j c3 hj2
        · have : j = p := by omega
          subst this
          exact Rat.not_lt.mp c2
    · simp [c, -o_ix]
      exact ⟨⟨by omega, by omega⟩, fin fun h => absurd h c⟩
  · rintro ρ ⟨ord, s2, s3, rfl, hp, hf⟩
    refine ⟨still_nil _, ?_⟩
    rw [List.length_range] at hp
    simp
    exact hR ord hp hf⟩
end DL

/-! DM17 -/
set_option exponentiation.threshold 100
namespace DL
open PySem PySem.Spec PyProof.Rows L2 LC

/-! ## Levels -/
abbrev Lvl := Nat × Nat × Rat
def lvD (l : Lvl) : DL.D := .tup [.int (l.1 : Int), .int (l.2.1 : Int), nD l.2.2]
def lev (now goal : List Rat) (made : List Lvl) : List (Fn × Fd) := [(.now, .lst (now.map nD)), (.goal, .lst (goal.map nD)), (.made, .lst (made.map lvD))]
abbrev vL (now goal : List Rat) (made : List Lvl) : Sl := .ins .Levels (lev now goal made)
def spI_Levels : ISpec := fun ss R => ∃ (a b : List Rat), ss = [vR a, vR b] ∧ R (lev a b []) ss
@[simp ↓, simp] theorem iLevels_eq (a b : List Rat) (R : List (Fn × Fd) → List Sl → Prop) : spI_Levels [vR a, vR b] R = R (lev a b []) [vR a, vR b] := ex2 vR_inj vR_inj a b
def G_Levels0 : Gam := { cls := [.Levels] }
theorem b_Levels_init : BodyI G_Levels0 .Levels 3 3 c_Levels___init__ spI_Levels := ⟨by
  rintro _ R ⟨a, b, rfl, hh⟩
  refine ⟨rfl, by decide, by simp, ?_⟩
  show wpSs _ _ [.ins .Levels [], vR a, vR b] _
  simp [c_Levels___init__, G_Levels0, rtI]
  exact hh⟩
/-- what a levelling does -/
def giveF (now : List Rat) (l : Lvl) : List Rat := (now.set l.1 (at0 now l.1 - l.2.2)).set l.2.1 (at0 now l.2.1 + l.2.2)
def sp_give : Spec := fun ss R => ∃ (now goal : List Rat) (made : List Lvl) (g t : Nat) (a : Rat), ss = [vL now goal made, vI g, vI t, vN a] ∧ (g < now.length ∧ t < now.length ∧ g ≠ t ∧ made.length < 1000 ∧ sm a ∧ sm (at0 now g) ∧ sm (at0 now t)) ∧
  R (.val .non) [vL (giveF now (g, t, a)) goal (made ++ [(g, t, a)]), vI g, vI t, vN a]
def G_give : Gam := { fn := [("added", sp_added), ("taken", sp_taken)], cls := [.Levels] }
theorem ixN_nat {n k : Nat} (h : k < n) : ixN n (k : Int) = some k := by
  unfold ixN
  have : (k : Int) < (n : Int) := by omega
  simp [h]
theorem b_give : Body G_give 4 4 c_Levels_give sp_give := ⟨by
  rintro _ R ⟨now, goal, made, g, t, a, rfl, ⟨h1, h2, h3, h4, h5, h6, h7⟩, hh⟩
  refine ⟨rfl, ⟨.inr rfl, by simp⟩, ?_⟩
  show wpSs _ _ [vL now goal made, vI g, vI t, vN a] _
  simp only [vL, lev]
  simp [c_Levels_give, G_give, -o_ix]
  refine ⟨by omega, ?_⟩
  refine ix_map (f := nD) (xs := now) (by simp) _ (atI_at0 h1) ?_
  simp [-o_ix]
  refine ⟨h6, h5, ?_⟩
  refine ⟨g, ⟨h1, rfl⟩, ?_⟩
  have e0 : (now.map nD).set g (nD (at0 now g - a)) = (now.set g (at0 now g - a)).map nD := List.map_set.symm
  rw [e0]
  have e1 : at0 (now.set g (at0 now g - a)) t = at0 now t := by
    unfold at0
    simp [List.getD, List.getElem?_set_ne h3]
  refine ix_map (f := nD) (xs := now.set g (at0 now g - a)) (by simp) _ (atI_at0 (by rw [List.length_set]; exact h2)) ?_
  rw [e1]
  simp [-o_ix, -List.map_set]
  refine ⟨h7, h5, t, ⟨h2, rfl⟩, ?_⟩
  have e2 : ((now.set g (at0 now g - a)).map nD).set t (nD (at0 now t + a)) = (giveF now (g, t, a)).map nD := List.map_set.symm
  rw [e2]
  have e3 : made.map lvD ++ [DL.D.tup [.int (g : Int), .int (t : Int), nD a]] = (made ++ [(g, t, a)]).map lvD := by
    rw [List.map_append]; rfl
  rw [e3]
  exact hh⟩
end DL

/-! DM18 -/
set_option exponentiation.threshold 100
namespace DL
open PySem PySem.Spec PyProof.Rows L2 LC

/-! ## next_pair -/
def optI : Option Nat → DL.D
  | none => .non
  | some k => .int (k : Int)
def oAt (o : List Nat) (k : Nat) : Nat := o.getD k 0
/-- before i nobody lacks; g the last that has too much -/
def Surp (now wn : List Rat) (ord : List Nat) (i : Nat) (g : Option Nat) : Prop :=
  (∀ j, j < i → at0 wn j ≤ at0 now (oAt ord j)) ∧ ((g = none ∧ ∀ j, j < i → at0 now (oAt ord j) = at0 wn j) ∨ ∃ k, k < i ∧ g = some k ∧ at0 wn k < at0 now (oAt ord k) ∧ ∀ j, k < j → j < i → at0 now (oAt ord j) = at0 wn j)
def NPair (now wn : List Rat) (ord : List Nat) (g t : Option Nat) : Prop := (t = none ∧ Surp now wn ord ord.length g) ∨ ∃ i, i < ord.length ∧ t = some i ∧ Surp now wn ord i g ∧ at0 now (oAt ord i) < at0 wn i
def sp_next : Spec := fun ss R => ∃ (now goal : List Rat) (made : List Lvl) (ord : List Nat) (wn : List Rat), ss = [vL now goal made, sI ord, sL wn] ∧ (ord.length = wn.length ∧ ord.length ≤ 1000 ∧ (∀ o ∈ ord, o < now.length) ∧ (∀ x ∈ now, sm x) ∧ ∀ x ∈ wn, sm x) ∧
  ∀ g t, NPair now wn ord g t → R (.val (.tup [optI g, optI t])) ss
def G_next : Gam := { fn := [("is_less", sp_is_less)], cls := [.Levels] }
theorem oAt_lt {ord : List Nat} {k : Nat} (h : k < ord.length) : oAt ord k = ord[k] := by unfold oAt; simp [List.getD, h]
theorem atI_oAt {ord : List Nat} {k : Nat} (h : k < ord.length) : atI ord (k : Int) = some (oAt ord k) := by
  rw [oAt_lt h]; exact (atI_nat ord k).trans (List.getElem?_eq_getElem h)
theorem b_next : Body G_next 5 3 c_Levels_next_pair sp_next := ⟨by
  rintro _ R ⟨now, goal, made, ord, wn, rfl, ⟨h1, h2, h3, h4, h5⟩, hR⟩
  refine ⟨rfl, ⟨.inr rfl, .inr rfl, .inr rfl, by simp⟩, ?_⟩
  show wpSs _ _ [vL now goal made, sI ord, sL wn, .non, .non] _
  simp [c_Levels_next_pair, G_next, -o_ix]
  refine fr_rule ⟨intsL 0 ord.length, []⟩ [vL now goal made, sI ord, sL wn, .fd (.val (optI none)), .non] (fun K hK => ?_) rfl ?_
  · simp
    exact ⟨by omega, hK⟩
  refine for_map (fun j : Nat => DL.D.int (0 + (j : Int))) (List.range ord.length) (fun i ρ => ∃ g s4, ρ = [vL now goal made, sI ord, sL wn, .fd (.val (optI g)), s4] ∧ Surp now wn ord i g) ⟨none, .non, rfl, fun j hj => by omega, .inl ⟨rfl, fun j hj => by omega⟩⟩ ?_ ?_
  · rintro i x ρ K hx ⟨g, s4, rfl, S⟩
    refine ⟨still_nil _, fun hK => ?_⟩
    have hi : i < ord.length := by
      have := (List.getElem?_eq_some_iff.mp hx).1
      simpa using this
    have ex : x = i := by
      rw [List.getElem?_range hi] at hx
      exact (Option.some.inj hx).symm
    subst ex
    have ho : oAt ord x < now.length := by rw [oAt_lt hi]; exact h3 _ (List.getElem_mem hi)
    have t1 := sm_at0 h4 ho
    have t2 := sm_at0 h5 (show x < wn.length by omega)
    simp only [vL, lev]
    simp [frStep_eq, G_next, -o_ix]
    refine ix_map (f := iD') (xs := ord) (by simp) _ (atI_oAt hi) ?_
    refine ix_map (f := nD) (xs := now) (by simp) _ (atI_at0 ho) ?_
    simp [-o_ix]
    refine ix_map (f := nD) (xs := wn) (by simp) _ (atI_at0 (by omega)) ?_
    simp [-o_ix]
    refine ⟨t1, t2, ?_⟩
    by_cases c : at0 now (oAt ord x) < at0 wn x
    · simp [c, -o_ix]
      exact hR g (some x) (.inr ⟨x, hi, rfl, S, c⟩)
    · simp [c, G_next, -o_ix]
      refine ix_map (f := nD) (xs := wn) (by simp) _ (atI_at0 (by omega)) ?_
      simp [-o_ix]
      refine ix_map (f := iD') (xs := ord) (by simp) _ (atI_oAt hi) ?_
      refine ix_map (f := nD) (xs := now) (by simp) _ (atI_at0 ho) ?_
      simp [-o_ix]
      refine ⟨t2, t1, ?_⟩
      have c' := Rat.not_lt.mp c
      have all : ∀ j, j < x + 1 → at0 wn j ≤ at0 now (oAt ord j) := fun j hj => by
        by_cases e : j = x
        · subst e; exact c'
        · exact S.1 j (by omega)
      by_cases c2 : at0 wn x < at0 now (oAt ord x)
      · simp [c2, -o_ix]
        exact hK _ ⟨some x, _, rfl, all, .inr ⟨x, by omega, rfl, c2, fun j a b => by omega⟩⟩
      · simp [c2, -o_ix]
        have eq : at0 now (oAt ord x) = at0 wn x := Rat.le_antisymm (Rat.not_lt.mp c2) c'
        refine hK _ ⟨g, .fd (.val (.int x)), rfl, all, ?_⟩
        rcases S.2 with ⟨a, b⟩ | ⟨k, a, b, e, f⟩
        · exact .inl ⟨a, fun j hj => by
            by_cases z : j = x
            · subst z; exact eq
            · exact b j (by omega)⟩
        · exact .inr ⟨k, by omega, b, e, fun j u v => by
            by_cases z : j = x
            · subst z; exact eq
            · exact f j u (by omega)⟩
  · rintro ρ ⟨g, s4, rfl, S⟩
    refine ⟨still_nil _, ?_⟩
    rw [List.length_range] at S
    simp
    exact hR g none (.inl ⟨rfl, S⟩)⟩
end DL

/-! DM19 -/
set_option exponentiation.threshold 100
namespace DL
open PySem PySem.Spec PyProof.Rows L2 LC

/-! ## evened: one turn -/
/-- a levelling that is allowed -/
def vld (now : List Rat) (l : Lvl) : Prop := l.1 < now.length ∧ l.2.1 < now.length ∧ l.1 ≠ l.2.1 ∧ 0 < l.2.2 ∧ l.2.2 ≤ at0 now l.1 - at0 now l.2.1
/-- levellings from a row, all numbers on the grid -/
inductive Play (D M : Nat) (a : List Rat) : List Lvl → List Rat → Prop
  | nil : (∀ k, k < a.length → bd D M (at0 a k)) → Play D M a [] a
  | snoc {ls : List Lvl} {b : List Rat} {l : Lvl} : Play D M a ls b → vld b l → bd D (M + M) l.2.2 → (∀ k, k < b.length → bd D M (at0 (giveF b l) k)) → Play D M a (ls ++ [l]) (giveF b l)
def dd (now wn : List Rat) (ord : List Nat) (j : Nat) : Rat := if j < ord.length then at0 now (oAt ord j) - at0 wn j else 0
theorem at0_set {xs : List Rat} {i j : Nat} {x : Rat} (hi : i < xs.length) : at0 (xs.set i x) j = if i = j then x else at0 xs j := by
  unfold at0
  by_cases h : i = j
  · subst h; simp [List.getD, hi]
  · simp [List.getD, List.getElem?_set_ne h, h]
theorem giveF_at {now : List Rat} {g t : Nat} {x : Rat} (hg : g < now.length) (ht : t < now.length) (hne : g ≠ t) (j : Nat) : at0 (giveF now (g, t, x)) j = if j = t then at0 now t + x else if j = g then at0 now g - x else at0 now j := by
  unfold giveF
  show at0 ((now.set g (at0 now g - x)).set t (at0 now t + x)) j = _
  rw [at0_set (by rw [List.length_set]; exact ht), at0_set hg]
  by_cases h1 : t = j
  · subst h1; simp
  · have h1' : ¬ j = t := fun e => h1 e.symm
    rw [if_neg h1, if_neg h1']
    by_cases h2 : g = j
    · subst h2; simp
    · have h2' : ¬ j = g := fun e => h2 e.symm
      rw [if_neg h2, if_neg h2']
theorem oAt_inj {ord : List Nat} {n : Nat} (hp : ord.Perm (List.range n)) {i j : Nat} (hi : i < ord.length) (hj : j < ord.length) (h : oAt ord i = oAt ord j) : i = j := by
  have nd : ord.Nodup := hp.nodup_iff.mpr List.nodup_range
  rw [oAt_lt hi, oAt_lt hj] at h
  apply Decidable.byContradiction
  intro c
  have pw := List.pairwise_iff_getElem.mp nd
  by_cases l : i < j
  · exact pw i j hi hj l h
  · exact pw j i hj hi (by omega) h.symm
structure EInv (L : Prop) (a now wn : List Rat) (ord : List Nat) (made : List Lvl) (D M : Nat) : Prop where
  perm : ord.Perm (List.range now.length)
  len : wn.length = now.length
  fall : ∀ i j, i < j → j < wn.length → at0 wn j ≤ at0 wn i
  led : L → ∀ k, 0 ≤ sumTo (dd now wn ord) k
  tot : L → sumTo (dd now wn ord) now.length = 0
  play : Play D M a made now
  bn : ∀ k, k < now.length → bd D M (at0 now k)
  bw : ∀ k, k < wn.length → bd D M (at0 wn k)
  cnt : made.length + cntNe (dd now wn ord) now.length ≤ now.length
theorem giveF_length (now : List Rat) (l : Lvl) : (giveF now l).length = now.length := by unfold giveF; simp
theorem dd_give {now wn : List Rat} {ord : List Nat} (hp : ord.Perm (List.range now.length)) {g t : Nat} {x : Rat} (hg : g < ord.length) (ht : t < ord.length) (hne : g ≠ t) (j : Nat) :
    dd (giveF now (oAt ord g, oAt ord t, x)) wn ord j = if j = t then dd now wn ord j + x else if j = g then dd now wn ord j + -x else dd now wn ord j := by
  have lo : ∀ {k}, k < ord.length → oAt ord k < now.length := fun {k} hk => by
    rw [oAt_lt hk]
    exact List.mem_range.mp ((hp.mem_iff).mp (List.getElem_mem hk))
  have ne : oAt ord g ≠ oAt ord t := fun e => hne (oAt_inj hp hg ht e)
  unfold dd
  by_cases hj : j < ord.length
  · simp only [if_pos hj]
    rw [giveF_at (lo hg) (lo ht) ne]
    by_cases c1 : j = t
    · subst c1; simp; grind
    · have e1 : ¬ oAt ord j = oAt ord t := fun e => c1 (oAt_inj hp hj ht e)
      rw [if_neg e1, if_neg c1]
      by_cases c2 : j = g
      · subst c2; simp; grind
      · have e2 : ¬ oAt ord j = oAt ord g := fun e => c2 (oAt_inj hp hj hg e)
        rw [if_neg e2, if_neg c2]
  · simp only [if_neg hj]
    rw [if_neg (by omega), if_neg (by omega)]
/-- one turn: the lesser of what one has too much and the other lacks -/
theorem turn_law {L : Prop} {a now wn : List Rat} {ord : List Nat} {made : List Lvl} {D M : Nat} (I : EInv L a now wn ord made D M) {g t : Nat} {x : Rat} (hgt : g < t) (ht : t < ord.length) (dg : 0 < dd now wn ord g) (dt : dd now wn ord t < 0) (z : ∀ j, g < j → j < t → dd now wn ord j = 0)
    (hx : (x = dd now wn ord g ∧ x ≤ -dd now wn ord t) ∨ (x = -dd now wn ord t ∧ x ≤ dd now wn ord g)) :
    EInv L a (giveF now (oAt ord g, oAt ord t, x)) wn ord (made ++ [(oAt ord g, oAt ord t, x)]) D M ∧ cntNe (dd (giveF now (oAt ord g, oAt ord t, x)) wn ord) now.length < cntNe (dd now wn ord) now.length := by
  have hp := I.perm
  have hlen : ord.length = now.length := by have := hp.length_eq; rwa [List.length_range] at this
  have hg : g < ord.length := by omega
  have x0 : 0 < x := by rcases hx with ⟨h, _⟩ | ⟨h, _⟩ <;> grind
  have xg : x ≤ dd now wn ord g := by rcases hx with ⟨h, _⟩ | ⟨_, h⟩ <;> grind
  have xt : x ≤ -dd now wn ord t := by rcases hx with ⟨_, h⟩ | ⟨h, _⟩ <;> grind
  have lo : ∀ {k}, k < ord.length → oAt ord k < now.length := fun {k} hk => by
    rw [oAt_lt hk]
    exact List.mem_range.mp ((hp.mem_iff).mp (List.getElem_mem hk))
  have ne : oAt ord g ≠ oAt ord t := fun e => (Nat.ne_of_lt hgt) (oAt_inj hp hg ht e)
  have eg : dd now wn ord g = at0 now (oAt ord g) - at0 wn g := by unfold dd; rw [if_pos hg]
  have et : dd now wn ord t = at0 now (oAt ord t) - at0 wn t := by unfold dd; rw [if_pos ht]
  have wf := I.fall g t hgt (by have := I.len; omega)
  have upd := dd_give hp hg ht (Nat.ne_of_lt hgt) (wn := wn) (x := x)
  have fun_eq : dd (giveF now (oAt ord g, oAt ord t, x)) wn ord = fun j => if j = t then (if j = g then dd now wn ord j + -x else dd now wn ord j) + x else if j = g then dd now wn ord j + -x else dd now wn ord j := by
    funext j
    rw [upd j]
    by_cases c1 : j = t
    · have : ¬ j = g := by omega
      simp only [if_pos c1, if_neg this]
    · simp only [if_neg c1]
  have zero_keep : ∀ j, dd now wn ord j = 0 → dd (giveF now (oAt ord g, oAt ord t, x)) wn ord j = 0 := fun j hj => by
    rw [upd j]
    by_cases c1 : j = t
    · subst c1; grind
    · rw [if_neg c1]
      by_cases c2 : j = g
      · subst c2; grind
      · rw [if_neg c2]; exact hj
  have less : cntNe (dd (giveF now (oAt ord g, oAt ord t, x)) wn ord) now.length < cntNe (dd now wn ord) now.length := by
    rcases hx with ⟨h, _⟩ | ⟨h, _⟩
    · refine cnt_lt (k := g) (fun j _ => zero_keep j) (by omega) (by grind) ?_
      rw [upd g, if_neg (by omega), if_pos rfl]; grind
    · refine cnt_lt (k := t) (fun j _ => zero_keep j) (by omega) (by grind) ?_
      rw [upd t, if_pos rfl]; grind
  have bl : ∀ k, k < now.length → bd D M (at0 (giveF now (oAt ord g, oAt ord t, x)) k) := fun k hk => by
    rw [giveF_at (lo hg) (lo ht) ne]
    have bg := I.bn _ (lo hg)
    have bt := I.bn _ (lo ht)
    have wg := I.bw g (by have := I.len; omega)
    have wt := I.bw t (by have := I.len; omega)
    have gx : ∃ zz : Int, x * (D : Rat) = (zz : Rat) := by
      rcases hx with ⟨h, _⟩ | ⟨h, _⟩
      · rw [h, eg]; exact (bd_sub bg wg).1
      · rw [h, et]
        have e : -(at0 now (oAt ord t) - at0 wn t) = at0 wn t - at0 now (oAt ord t) := by grind
        rw [e]; exact (bd_sub wt bt).1
    obtain ⟨zz, hz⟩ := gx
    by_cases c1 : k = oAt ord t
    · rw [if_pos c1]
      obtain ⟨⟨y, hy⟩, l1, l2⟩ := bt
      refine ⟨⟨y + zz, by rw [Rat.add_mul, hy, hz]; simp⟩, by grind, ?_⟩
      have := wt.2.2; grind
    · rw [if_neg c1]
      by_cases c2 : k = oAt ord g
      · rw [if_pos c2]
        obtain ⟨⟨y, hy⟩, l1, l2⟩ := bg
        refine ⟨⟨y - zz, ?_⟩, ?_, by grind⟩
        · rw [Rat.sub_eq_add_neg, Rat.add_mul, Rat.neg_mul, hy, hz, Rat.intCast_sub]; grind
        · have := wg.2.1; grind
      · rw [if_neg c2]; exact I.bn k hk
  refine ⟨⟨by rw [giveF_length]; exact hp, by rw [giveF_length]; exact I.len, I.fall, fun hL k => ?_, fun hL => ?_, ?_, ?_, I.bw, ?_⟩, less⟩
  · rw [fun_eq]
    exact lead_keep (I.led hL) hgt xg (Rat.le_of_lt x0) z k
  · rw [giveF_length, fun_eq, sumTo_upd (fun j => if j = g then dd now wn ord j + -x else dd now wn ord j) t x, sumTo_upd (dd now wn ord) g (-x), I.tot hL, if_pos (by omega), if_pos (by omega)]
    grind
  · refine .snoc I.play ⟨lo hg, lo ht, ne, x0, by show x ≤ at0 now (oAt ord g) - at0 now (oAt ord t); grind⟩ ?_ bl
    have bg := I.bn _ (lo hg)
    have bt := I.bn _ (lo ht)
    have wg := I.bw g (by have := I.len; omega)
    have wt := I.bw t (by have := I.len; omega)
    rcases hx with ⟨h, _⟩ | ⟨h, _⟩
    · show bd D (M + M) x
      rw [h, eg]; exact bd_sub bg wg
    · show bd D (M + M) x
      rw [h, et, show -(at0 now (oAt ord t) - at0 wn t) = at0 wn t - at0 now (oAt ord t) by grind]
      exact bd_sub wt bt
  · rw [giveF_length]; exact bl
  · rw [giveF_length, List.length_append]
    have := I.cnt
    simp only [List.length_cons, List.length_nil]
    omega
end DL

/-! DM20 -/
set_option exponentiation.threshold 100
namespace DL
open PySem PySem.Spec PyProof.Rows L2 LC

/-! ## evened -/
/-- a while: what is behind a turn is named -/
theorem whl_go {Γ : Gam} {ρ : Env} {P : Post} {t : E} {b : Ss} (W : Nat → Env → Prop) (m : Nat) (h0 : W m ρ) (hs : ∀ m ρ1, W m ρ1 → ∀ K : Env → Prop, (∀ m' ρ', m' < m → W m' ρ' → K ρ') → wpT Γ t ρ1 fun c ρ2 => if c = true then wpSs Γ b ρ2 { nx := K, rt := P.rt, bk := P.nx, ct := K } else P.nx ρ2) : wpS Γ (.whl t b) ρ P :=
  ⟨W, ⟨m, h0⟩, fun m ρ1 h => hs m ρ1 h _ fun m' ρ' l w => ⟨m', l, w⟩⟩
theorem at0_lt {xs : List Rat} {k : Nat} (h : k < xs.length) : at0 xs k = xs[k] := by unfold at0; simp [List.getD, h]
theorem at0_out {xs : List Rat} {k : Nat} (h : xs.length ≤ k) : at0 xs k = 0 := by unfold at0; simp [List.getD, h]
theorem map_range_at0 (xs : List Rat) : (List.range xs.length).map (at0 xs) = xs := by
  apply List.ext_getElem
  · simp
  · intro i h1 h2
    rw [List.getElem_map, List.getElem_range, at0_lt h2]
theorem perm_at0 {xs : List Rat} {ord : List Nat} (h : ord.Perm (List.range xs.length)) : (ord.map (at0 xs)).Perm xs := by
  have := h.map (at0 xs)
  rwa [map_range_at0] at this
theorem at0_map {xs : List Rat} {ord : List Nat} {k : Nat} (h : k < ord.length) : at0 (ord.map (at0 xs)) k = at0 xs (oAt ord k) := by
  rw [at0_lt (by simpa using h), List.getElem_map, oAt_lt h]
theorem sum_take (xs : List Rat) : ∀ k, sumTo (at0 xs) k = sumL (xs.take k)
  | 0 => rfl
  | k + 1 => by
    simp only [LC.sumTo]
    rw [sum_take xs k]
    by_cases c : k < xs.length
    · rw [List.take_succ, List.getElem?_eq_getElem c, sumL_append, at0_lt c]
      simp only [Option.toList, sumL]; grind
    · rw [at0_out (by omega), List.take_of_length_le (by omega), List.take_of_length_le (by omega)]; grind
/-- levellings may lead from a to g -/
def Led (a g : List Rat) : Prop := (∀ t, hinges t g ≤ hinges t a) ∧ sumL g = sumL a
theorem sum_dd {now wn : List Rat} {ord : List Nat} (hl : wn.length = ord.length) (k : Nat) : sumTo (dd now wn ord) k = sumL ((ord.map (at0 now)).take k) - sumL (wn.take k) := by
  rw [← sum_take, ← sum_take, ← sum_sub]
  refine sum_congr fun j _ => ?_
  unfold dd
  by_cases c : j < ord.length
  · rw [if_pos c, at0_map c]
  · rw [if_neg c, at0_out (by simpa using Nat.le_of_not_lt c), at0_out (by omega)]; grind
theorem led_start {a g wn : List Rat} {ord : List Nat} (ho : ord.Perm (List.range a.length)) (fo : Falling (ord.map (at0 a))) (hw : wn.Perm g) (hl : wn.length = a.length) (L : Led a g) :
    (∀ k, 0 ≤ sumTo (dd a wn ord) k) ∧ sumTo (dd a wn ord) a.length = 0 := by
  have lo : ord.length = a.length := by have := ho.length_eq; rwa [List.length_range] at this
  have pa := perm_at0 ho
  have hs : sumL wn = sumL (ord.map (at0 a)) := by rw [sumL_perm hw, sumL_perm pa]; exact L.2
  have ll := leads_of fo (by rw [List.length_map]; omega) (fun t => by rw [hinges_perm hw, hinges_perm pa]; exact L.1 t) hs
  refine ⟨fun k => ?_, ?_⟩
  · rw [sum_dd (by omega)]; have := ll k; grind
  · rw [sum_dd (by omega), List.take_of_length_le (by simp; omega), List.take_of_length_le (by omega), hs]; grind
structure SzOk (D M : Nat) : Prop where
  d0 : 0 < D
  dd : D < 2 ^ 2000
  mm : 4 * M * D < 2 ^ 2000
theorem SzOk.sm {D M N : Nat} (z : SzOk D M) {q : Rat} (h : bd D N q) (hN : N ≤ 4 * M) : DL.sm q :=
  sm_of h z.d0 z.dd (Nat.lt_of_le_of_lt (Nat.mul_le_mul_right _ hN) z.mm)
theorem mem_at0 {D M : Nat} {xs : List Rat} (h : ∀ k, k < xs.length → bd D M (at0 xs k)) : ∀ x ∈ xs, bd D M x := fun x hx => by
  obtain ⟨i, hi, rfl⟩ := List.mem_iff_getElem.mp hx
  rw [← at0_lt hi]; exact h i hi
theorem at0_mem {D M : Nat} {xs : List Rat} (h : ∀ x ∈ xs, bd D M x) : ∀ k, k < xs.length → bd D M (at0 xs k) := fun k hk => by
  rw [at0_lt hk]; exact h _ (List.getElem_mem hk)
def sp_evened : Spec := fun ss R => ∃ (D M : Nat) (a g : List Rat), ss = [vL a g []] ∧ (SzOk D M ∧ g.length = a.length ∧ a.length ≤ 100 ∧ (∀ x ∈ a, bd D M x) ∧ ∀ x ∈ g, bd D M x) ∧
  ∀ (b : Bool) (now : List Rat) (made : List Lvl), Play D M a made now → now.length = a.length → (∀ x ∈ now, bd D M x) → made.length ≤ a.length → (b = true → now.Perm g) → (Led a g → b = true) → R (.val (.bl b)) [vL now g made]
def G_evened : Gam := { fn := [("is_less", sp_is_less), ("taken", sp_taken), ("falling", sp_falling)], met := [(.Levels, "next_pair", sp_next), (.Levels, "give", sp_give)], cls := [.Levels] }
theorem optI_non (o : Option Nat) : isNon (.val (optI o)) = o.isNone := by cases o <;> rfl
theorem fall_at {wn : List Rat} (f : Falling wn) : ∀ i j, i < j → j < wn.length → at0 wn j ≤ at0 wn i := fun i j h1 h2 => by
  rw [at0_lt h2, at0_lt (by omega)]
  exact List.pairwise_iff_getElem.mp f i j (by omega) h2 h1
/-- what next_pair tells, in terms of dd -/
theorem pair_law {now wn : List Rat} {ord : List Nat} (hl : wn.length = ord.length) {g t : Option Nat} (h : NPair now wn ord g t) :
    (∀ k i, g = some k → t = some i → k < i ∧ i < ord.length ∧ 0 < dd now wn ord k ∧ dd now wn ord i < 0 ∧ ∀ j, k < j → j < i → dd now wn ord j = 0) ∧
    (g = none → t = none → ∀ j, dd now wn ord j = 0) ∧
    (∀ i, g = none → t = some i → dd now wn ord i < 0 ∧ ∀ j, j < i → dd now wn ord j = 0) ∧
    (∀ k, g = some k → t = none → k < ord.length ∧ 0 < dd now wn ord k ∧ ∀ j, 0 ≤ dd now wn ord j) := by
  have e : ∀ j, j < ord.length → dd now wn ord j = at0 now (oAt ord j) - at0 wn j := fun j hj => by unfold dd; rw [if_pos hj]
  have o : ∀ j, ¬ j < ord.length → dd now wn ord j = 0 := fun j hj => by unfold dd; rw [if_neg hj]
  rcases h with ⟨rfl, S1, S2⟩ | ⟨i, hi, rfl, ⟨S1, S2⟩, hlt⟩
  · refine ⟨fun k i _ z => (by cases z), fun hg _ j => ?_, fun i _ z => (by cases z), fun k hg _ => ?_⟩
    · subst hg
      rcases S2 with ⟨_, S2⟩ | ⟨k, _, z, _⟩
      · by_cases c : j < ord.length
        · rw [e j c, S2 j c]; grind
        · exact o j c
      · cases z
    · subst hg
      rcases S2 with ⟨z, _⟩ | ⟨k', hk, z, h1, h2⟩
      · cases z
      · cases z
        refine ⟨hk, by rw [e k hk]; grind, fun j => ?_⟩
        by_cases c : j < ord.length
        · rw [e j c]; have := S1 j c; grind
        · rw [o j c]; exact Rat.le_refl
  · refine ⟨fun k i' hg hi' => ?_, fun _ z => (by cases z), fun i' hg hi' => ?_, fun k _ z => (by cases z)⟩
    · cases hi'
      rcases S2 with ⟨z, _⟩ | ⟨k', hk, z, h1, h2⟩
      · rw [hg] at z; cases z
      · rw [hg] at z; cases z
        refine ⟨hk, hi, by rw [e k (by omega)]; grind, by rw [e i hi]; grind, fun j a b => by rw [e j (by omega), h2 j a b]; grind⟩
    · cases hi'
      rcases S2 with ⟨_, S2⟩ | ⟨k', hk, z, h1, h2⟩
      · exact ⟨by rw [e i hi]; grind, fun j hj => by rw [e j (by omega), S2 j hj]; grind⟩
      · rw [hg] at z; cases z
theorem perm_end {now wn g : List Rat} {ord : List Nat} (ho : ord.Perm (List.range now.length)) (hw : wn.Perm g) (hl : wn.length = ord.length) (z : ∀ j, dd now wn ord j = 0) : now.Perm g := by
  have e : ord.map (at0 now) = wn := by
    apply List.ext_getElem
    · simp [hl]
    · intro i h1 h2
      have hi : i < ord.length := by omega
      have := z i
      unfold dd at this
      rw [if_pos hi] at this
      rw [List.getElem_map, ← oAt_lt hi, ← at0_lt h2]
      grind
  exact (perm_at0 ho).symm.trans (e ▸ hw)
end DL

/-! DM21 -/
set_option exponentiation.threshold 100
namespace DL
open PySem PySem.Spec PyProof.Rows L2 LC

/-! ## evened -/
theorem b_evened : Body G_evened 8 1 c_Levels_evened sp_evened := ⟨by
  rintro _ R ⟨D, M, a, g, rfl, ⟨Z, hl, hn, ha, hg⟩, hR⟩
  refine ⟨rfl, ⟨.inr rfl, by simp⟩, ?_⟩
  show wpSs _ _ [vL a g [], .non, .non, .non, .non, .non, .non, .non] _
  have smA : ∀ x ∈ a, sm x := fun x hx => Z.sm (ha x hx) (by omega)
  have smG : ∀ x ∈ g, sm x := fun x hx => Z.sm (hg x hx) (by omega)
  simp only [vL, lev]
  simp [c_Levels_evened, G_evened, -o_ix]
  refine ⟨a, rfl, ⟨by omega, smA⟩, fun ord po fo => ?_⟩
  simp [-o_ix]
  show wpIt _ _ _ _
  simp [-o_ix]
  refine ⟨g, rfl, ⟨by omega, smG⟩, fun og pg fg => ?_⟩
  have lo : ord.length = a.length := by have := po.length_eq; rwa [List.length_range] at this
  have lg : og.length = g.length := by have := pg.length_eq; rwa [List.length_range] at this
  simp [-o_ix]
  refine ⟨by omega, lc_map iD' (fun k : Nat => nD (at0 g k)) (still_nil _) og [] _ (fun k hk K hK => ?_) ?_⟩
  · have hk' : k < g.length := List.mem_range.mp ((pg.mem_iff).mp hk)
    simp [lcStep_eq, -o_ix] at hK ⊢
    refine ix_map (f := nD) (xs := g) (by simp) _ (atI_at0 hk') ?_
    simp [-o_ix]
    exact hK
  have ew : og.map (fun k : Nat => nD (at0 g k)) = (og.map (at0 g)).map nD := by rw [List.map_map]; rfl
  simp only [List.nil_append, ew]
  have lw : (og.map (at0 g)).length = a.length := by rw [List.length_map]; omega
  have pw := perm_at0 pg
  have bw : ∀ x ∈ og.map (at0 g), bd D M x := fun x hx => hg x ((pw.mem_iff).mp hx)
  generalize og.map (at0 g) = wn at *
  simp [G_evened, -o_ix]
  have E0 : EInv (Led a g) a a wn ord [] D M :=
    ⟨po, lw, fall_at fg, fun L => (led_start po fo pw lw L).1, fun L => (led_start po fo pw lw L).2, .nil (at0_mem ha), at0_mem ha, at0_mem bw, by have := cnt_le (dd a wn ord) a.length; simpa using this⟩
  refine ⟨a, g, [], ord, wn, rfl, ⟨by omega, by omega, fun o ho => List.mem_range.mp ((po.mem_iff).mp ho), smA, fun x hx => Z.sm (bw x hx) (by omega)⟩, fun g0 t0 np => ?_⟩
  simp [-o_ix]
  refine whl_go (fun m ρ => ∃ now made gv tk s5 s6, ρ = [vL now g made, sI ord, sL wn, vD (optI gv), vD (optI tk), s5, s6, .non] ∧ m = cntNe (dd now wn ord) a.length ∧ now.length = a.length ∧ EInv (Led a g) a now wn ord made D M ∧ NPair now wn ord gv tk) _ ⟨a, [], g0, t0, .non, .non, rfl, rfl, rfl, E0, np⟩ ?_
  rintro m ρ ⟨now, made, gv, tk, s5, s6, rfl, rfl, ln, E, np⟩ K hK
  have lowo : wn.length = ord.length := by omega
  obtain ⟨q1, q2, q3, q4⟩ := pair_law lowo np
  have bnow : ∀ x ∈ now, bd D M x := mem_at0 E.bn
  have fin : (gv = none ∨ tk = none) → ∀ b : Bool, b = (gv.isNone && tk.isNone) → R (.val (.bl b)) [vL now g made] := fun h b hb => by
    refine hR b now made E.play ln bnow (by have := E.cnt; omega) (fun e => ?_) (fun L => ?_)
    · subst e
      have e : gv = none ∧ tk = none := by cases gv <;> cases tk <;> simp at hb <;> simp
      exact perm_end E.perm pw lowo (q2 e.1 e.2)
    · subst hb
      cases gv with
      | none =>
        cases tk with
        | none => rfl
        | some i =>
          obtain ⟨z1, z2⟩ := q3 i rfl rfl
          exact (lead_giver (E.led L) z1 z2).elim
      | some k =>
        cases tk with
        | none =>
          obtain ⟨z0, z1, z2⟩ := q4 k rfl rfl
          have := sum_zero_of_nn (n := now.length) (fun j _ => z2 j) (E.tot L) k (by omega)
          grind
        | some i => simp at h
  cases gv with
  | none =>
    have fin' := fin (.inl rfl) _ rfl
    cases tk <;> (simp only [vL, lev] at fin' ⊢; simp [optI_non, optI, -o_ix]; exact fin')
  | some k =>
    cases tk with
    | none =>
      have fin' := fin (.inr rfl) _ rfl
      simp only [vL, lev] at fin' ⊢
      simp [optI_non, optI, -o_ix]
      exact fin'
    | some i =>
      obtain ⟨w1, w2, w3, w4, w5⟩ := q1 k i rfl rfl
      have hk : k < ord.length := by omega
      have ok : oAt ord k < now.length := by rw [oAt_lt hk]; exact List.mem_range.mp ((E.perm.mem_iff).mp (List.getElem_mem hk))
      have oi : oAt ord i < now.length := by rw [oAt_lt w2]; exact List.mem_range.mp ((E.perm.mem_iff).mp (List.getElem_mem w2))
      have b1 := E.bn _ ok
      have b2 := E.bn _ oi
      have b3 := E.bw k (by omega)
      have b4 := E.bw i (by omega)
      have e1 : at0 now (oAt ord k) - at0 wn k = dd now wn ord k := by unfold dd; rw [if_pos hk]
      have e2 : at0 wn i - at0 now (oAt ord i) = -dd now wn ord i := by unfold dd; rw [if_pos w2]; grind
      simp only [vL, lev]
      simp [optI_non, optI, -o_ix]
      refine ix_map (f := iD') (xs := ord) (by simp) _ (atI_oAt hk) ?_
      refine ix_map (f := nD) (xs := now) (by simp) _ (atI_at0 ok) ?_
      simp [-o_ix]
      refine ix_map (f := nD) (xs := wn) (by simp) _ (atI_at0 (by omega)) ?_
      simp [-o_ix]
      refine ⟨Z.sm b1 (by omega), Z.sm b3 (by omega), ?_⟩
      refine ix_map (f := nD) (xs := wn) (by simp) _ (atI_at0 (by omega)) ?_
      simp [-o_ix]
      refine ix_map (f := iD') (xs := ord) (by simp) _ (atI_oAt w2) ?_
      refine ix_map (f := nD) (xs := now) (by simp) _ (atI_at0 oi) ?_
      simp [-o_ix]
      refine ⟨Z.sm b4 (by omega), Z.sm b2 (by omega), ?_⟩
      rw [e1, e2]
      have s1 : sm (dd now wn ord k) := by rw [← e1]; exact Z.sm (bd_sub b1 b3) (by omega)
      have s2 : sm (-dd now wn ord i) := by rw [← e2]; exact Z.sm (bd_sub b4 b2) (by omega)
      simp [s1, s2, -o_ix]
      have ne : oAt ord k ≠ oAt ord i := fun e => (Nat.ne_of_lt w1) (oAt_inj E.perm hk w2 e)
      have cn := E.cnt
      obtain ⟨x, sx, hx, ex⟩ : ∃ x, sm x ∧ ((x = dd now wn ord k ∧ x ≤ -dd now wn ord i) ∨ (x = -dd now wn ord i ∧ x ≤ dd now wn ord k)) ∧ (x = if -dd now wn ord i < dd now wn ord k then -dd now wn ord i else dd now wn ord k) := by
        by_cases c : -dd now wn ord i < dd now wn ord k
        · exact ⟨_, s2, .inr ⟨rfl, Rat.le_of_lt c⟩, by rw [if_pos c]⟩
        · exact ⟨_, s1, .inl ⟨rfl, Rat.not_lt.mp c⟩, by rw [if_neg c]⟩
      obtain ⟨E', less⟩ := turn_law E w1 w2 w3 w4 w5 hx
      have bn' := mem_at0 E'.bn
      by_cases c : -dd now wn ord i < dd now wn ord k
      all_goals
        simp only [c, if_true, if_false] at ex ⊢
        rw [← ex]
        refine ix_map (f := iD') (xs := ord) (by simp) _ (atI_oAt hk) ?_
        simp [-o_ix]
        refine ix_map (f := iD') (xs := ord) (by simp) _ (atI_oAt w2) ?_
        simp [-o_ix]
        refine ⟨now, g, made, oAt ord k, oAt ord i, x, rfl, ⟨ok, oi, ne, by omega, sx, Z.sm b1 (by omega), Z.sm b2 (by omega)⟩, ?_⟩
        simp [vL, lev, G_evened, -o_ix]
        refine ⟨giveF now (oAt ord k, oAt ord i, x), g, made ++ [(oAt ord k, oAt ord i, x)], ord, wn, by simp [vL, lev], ⟨by omega, by omega, fun o ho => by rw [giveF_length]; exact List.mem_range.mp ((E.perm.mem_iff).mp ho), fun y hy => Z.sm (bn' y hy) (by omega), fun y hy => Z.sm (bw y hy) (by omega)⟩, fun g1 t1 np1 => ?_⟩
        simp [-o_ix]
        rw [ln] at less
        exact hK _ _ less ⟨_, made ++ [(oAt ord k, oAt ord i, x)], g1, t1, _, _, by simp [vL, lev]; exact ⟨rfl, rfl⟩, rfl, by rw [giveF_length]; exact ln, E', np1⟩⟩
end DL

/-! DM22 -/
set_option exponentiation.threshold 100
namespace DL
open PySem PySem.Spec PyProof.Rows L2 LC

/-! ## put_right -/
theorem ext_at0 {xs ys : List Rat} (hl : xs.length = ys.length) (h : ∀ k, k < xs.length → at0 xs k = at0 ys k) : xs = ys := by
  apply List.ext_getElem hl
  intro i h1 h2
  rw [← at0_lt h1, ← at0_lt h2]; exact h i h1
theorem perm_swap {now : List Rat} {p o : Nat} (hp : p < now.length) (ho : o < now.length) : ((now.set p (at0 now o)).set o (at0 now p)).Perm now := by
  rw [at0_lt hp, at0_lt ho]; exact List.set_set_perm hp ho
theorem give_swap1 {now : List Rat} {p o : Nat} (hp : p < now.length) (ho : o < now.length) (hne : p ≠ o) : giveF now (o, p, at0 now o - at0 now p) = (now.set p (at0 now o)).set o (at0 now p) := by
  refine ext_at0 (by rw [giveF_length]; simp) fun k hk => ?_
  rw [giveF_at ho hp (fun e => hne e.symm), at0_set (by rw [List.length_set]; exact ho), at0_set hp]
  by_cases c1 : k = p
  · subst c1; rw [if_pos rfl, if_neg (fun e => hne e.symm), if_pos rfl]; grind
  · rw [if_neg c1]
    by_cases c2 : k = o
    · subst c2; simp; grind
    · rw [if_neg c2, if_neg (fun e => c2 e.symm), if_neg (fun e => c1 e.symm)]
theorem give_swap2 {now : List Rat} {p o : Nat} (hp : p < now.length) (ho : o < now.length) (hne : p ≠ o) : giveF now (p, o, at0 now p - at0 now o) = (now.set p (at0 now o)).set o (at0 now p) := by
  refine ext_at0 (by rw [giveF_length]; simp) fun k hk => ?_
  rw [giveF_at hp ho hne, at0_set (by rw [List.length_set]; exact ho), at0_set hp]
  by_cases c1 : k = o
  · subst c1; simp; grind
  · rw [if_neg c1, if_neg (show ¬ o = k from fun e => c1 e.symm)]
    by_cases c2 : k = p
    · subst c2; simp; grind
    · rw [if_neg c2, if_neg (show ¬ p = k from fun e => c2 e.symm)]
theorem exists_later {now goal : List Rat} {i : Nat} (hp : now.Perm goal) (hi : i < now.length) (h : ∀ j, j < i → at0 now j = at0 goal j) (hne : at0 now i ≠ at0 goal i) : ∃ o, i < o ∧ o < now.length ∧ at0 now o = at0 goal i := by
  have hl := hp.length_eq
  have e : now.take i = goal.take i := by
    apply List.ext_getElem (by simp [hl])
    intro j h1 h2
    simp at h1 h2
    rw [List.getElem_take, List.getElem_take, ← at0_lt, ← at0_lt]
    exact h j (by omega)
  have hp' : (now.drop i).Perm (goal.drop i) := by
    have : (now.take i ++ now.drop i).Perm (now.take i ++ goal.drop i) := by rw [List.take_append_drop, e, List.take_append_drop]; exact hp
    exact (List.perm_append_left_iff _).mp this
  have hm : at0 goal i ∈ now.drop i := by
    rw [hp'.mem_iff, at0_lt (by omega)]
    rw [List.drop_eq_getElem_cons (by omega)]
    exact List.mem_cons_self
  obtain ⟨k, hk, ek⟩ := List.mem_iff_getElem.mp hm
  rw [List.length_drop] at hk
  rw [List.getElem_drop] at ek
  refine ⟨i + k, ?_, by omega, by rw [at0_lt (by omega), ek]⟩
  apply Decidable.byContradiction
  intro c
  have : k = 0 := by omega
  subst this
  exact hne (by rw [at0_lt hi, ← ek]; simp)
def sp_put_right : Spec := fun ss R => ∃ (D M : Nat) (a now goal : List Rat) (made : List Lvl), ss = [vL now goal made] ∧ (SzOk D M ∧ now.Perm goal ∧ now.length ≤ 100 ∧ made.length + now.length ≤ 900 ∧ Play D M a made now ∧ ∀ x ∈ goal, bd D M x) ∧
  ∀ made', Play D M a made' goal → made'.length ≤ made.length + now.length → R (.val .non) [vL goal goal made']
def G_put_right : Gam := { fn := [("is_less", sp_is_less), ("taken", sp_taken)], met := [(.Levels, "give", sp_give)], cls := [.Levels] }
/-- a swap by a levelling -/
theorem swap_play {D M : Nat} {a now : List Rat} {made : List Lvl} {p o : Nat} (P : Play D M a made now) (hp : p < now.length) (ho : o < now.length) (hne : p ≠ o) (hv : at0 now p ≠ at0 now o) (hb : ∀ x ∈ now, bd D M x) :
    (at0 now p < at0 now o → Play D M a (made ++ [(o, p, at0 now o - at0 now p)]) ((now.set p (at0 now o)).set o (at0 now p))) ∧
    (¬ at0 now p < at0 now o → Play D M a (made ++ [(p, o, at0 now p - at0 now o)]) ((now.set p (at0 now o)).set o (at0 now p))) := by
  have bb := perm_swap hp ho
  have hb' : ∀ k, k < now.length → bd D M (at0 ((now.set p (at0 now o)).set o (at0 now p)) k) := fun k hk => by
    rw [at0_lt (by simpa using hk)]
    exact hb _ ((bb.mem_iff).mp (List.getElem_mem _))
  have b1 : bd D M (at0 now p) := at0_mem hb _ hp
  have b2 : bd D M (at0 now o) := at0_mem hb _ ho
  refine ⟨fun c => ?_, fun c => ?_⟩
  · rw [← give_swap1 hp ho hne]
    refine .snoc P ⟨ho, hp, fun e => hne e.symm, by show 0 < at0 now o - at0 now p; grind, Rat.le_refl⟩ (bd_sub b2 b1) ?_
    rw [give_swap1 hp ho hne]; exact hb'
  · rw [← give_swap2 hp ho hne]
    refine .snoc P ⟨hp, ho, hne, ?_, Rat.le_refl⟩ (bd_sub b1 b2) ?_
    · show 0 < at0 now p - at0 now o
      have := Rat.not_lt.mp c
      grind
    · rw [give_swap2 hp ho hne]; exact hb'
theorem vL_app (now goal : List Rat) (made : List Lvl) (l : Lvl) : (.ins .Levels [(.now, .lst (now.map nD)), (.goal, .lst (goal.map nD)), (.made, .lst (made.map lvD ++ [lvD l]))] : Sl) = vL now goal (made ++ [l]) := by simp [vL, lev]
theorem b_put_right : Body G_put_right 3 1 c_Levels_put_right sp_put_right := ⟨by
  rintro _ R ⟨D, M, a, now0, goal, made0, rfl, ⟨Z, hp0, hn, hm, P0, hg⟩, hR⟩
  refine ⟨rfl, ⟨.inr rfl, by simp⟩, ?_⟩
  show wpSs _ _ [vL now0 goal made0, .non, .non] _
  simp only [vL, lev]
  simp [c_Levels_put_right, G_put_right, -o_ix]
  refine fr_rule ⟨intsL 0 now0.length, []⟩ [vL now0 goal made0, .non, .non] (fun K hK => ?_) rfl ?_
  · simp [lev]
    exact ⟨by omega, hK⟩
  refine for_map (fun j : Nat => DL.D.int (0 + (j : Int))) (List.range now0.length) (fun i ρ => ∃ now made s1 s2, ρ = [vL now goal made, s1, s2] ∧ now.Perm goal ∧ now.length = now0.length ∧ (∀ j, j < i → at0 now j = at0 goal j) ∧ Play D M a made now ∧ made.length ≤ made0.length + i) ⟨now0, made0, .non, .non, rfl, hp0, rfl, fun j h => by omega, P0, by omega⟩ ?_ ?_
  · rintro i x ρ K hx ⟨now, made, s1, s2, rfl, hp, ln, hpre, P, hml⟩
    refine ⟨still_nil _, fun hK => ?_⟩
    have hi : i < now0.length := by
      have := (List.getElem?_eq_some_iff.mp hx).1
      simpa using this
    have ex : x = i := by
      rw [List.getElem?_range hi] at hx
      exact (Option.some.inj hx).symm
    subst ex
    have hb : ∀ y ∈ now, bd D M y := fun y hy => hg y ((hp.mem_iff).mp hy)
    have hgl : goal.length = now0.length := by rw [← hp.length_eq]; exact ln
    have hin : x < now.length := by omega
    simp only [vL, lev]
    simp [frStep_eq, G_put_right, -o_ix]
    refine ix_map (f := nD) (xs := now) (by simp) _ (atI_at0 hin) ?_
    simp [-o_ix]
    refine ix_map (f := nD) (xs := goal) (by simp) _ (atI_at0 (by omega)) ?_
    simp [-o_ix]
    by_cases c : at0 now x = at0 goal x
    · simp [c]
      refine hK _ ⟨now, made, _, _, rfl, hp, ln, fun j hj => ?_, P, by omega⟩
      by_cases e : j = x
      · subst e; exact c
      · exact hpre j (by omega)
    · simp [c, G_put_right, -o_ix]
      obtain ⟨o, o1, o2, o3⟩ := exists_later hp hin hpre c
      refine whl_go (fun m ρ => ∃ q : Nat, ρ = [vL now goal made, vI x, vI q] ∧ m = now.length - q ∧ x < q ∧ q ≤ o) _ ⟨x + 1, by simp [lev], rfl, by omega, by omega⟩ ?_
      rintro m ρ ⟨q, rfl, rfl, q1, q2⟩ K' hK'
      have hq : q < now.length := by omega
      simp only [vL, lev]
      simp [-o_ix]
      refine ix_map (f := nD) (xs := now) (by simp) _ (atI_at0 hq) ?_
      simp [-o_ix]
      refine ix_map (f := nD) (xs := goal) (by simp) _ (atI_at0 (by omega)) ?_
      simp [-o_ix]
      by_cases c2 : at0 now q = at0 goal x
      · simp [c2, G_put_right, -o_ix]
        refine ix_map (f := nD) (xs := now) (by simp) _ (atI_at0 hin) ?_
        simp [-o_ix]
        refine ix_map (f := nD) (xs := now) (by simp) _ (atI_at0 hq) ?_
        simp [-o_ix]
        have b1 : bd D M (at0 now x) := at0_mem hb _ hin
        have b2 : bd D M (at0 now q) := at0_mem hb _ hq
        have s1 := Z.sm b1 (by omega)
        have s2 := Z.sm b2 (by omega)
        refine ⟨s1, s2, ?_⟩
        have hv : at0 now x ≠ at0 now q := by rw [c2]; exact c
        obtain ⟨p1, p2⟩ := swap_play P hin hq (by omega) hv hb
        have fin : ∀ l : Lvl, Play D M a (made ++ [l]) ((now.set x (at0 now q)).set q (at0 now x)) → K [vL ((now.set x (at0 now q)).set q (at0 now x)) goal (made ++ [l]), vI x, vI q] := fun l Pl => by
          refine hK _ ⟨_, _, _, _, rfl, (perm_swap hin hq).trans hp, by simp; omega, fun j hj => ?_, Pl, by simp; omega⟩
          rw [at0_set (by simpa using hq), if_neg (by omega), at0_set hin]
          by_cases e : j = x
          · subst e; rw [if_pos rfl]; exact c2
          · rw [if_neg (fun z => e z.symm)]; exact hpre j (by omega)
        by_cases c3 : at0 now x < at0 now q
        · simp [c3, G_put_right, -o_ix]
          refine ix_map (f := nD) (xs := now) (by simp) _ (atI_at0 hq) ?_
          simp [-o_ix]
          refine ix_map (f := nD) (xs := now) (by simp) _ (atI_at0 hin) ?_
          simp [-o_ix]
          refine ⟨s2, s1, now, goal, made, q, x, _, rfl, ⟨hq, hin, by omega, by omega, Z.sm (bd_sub b2 b1) (by omega), s2, s1⟩, ?_⟩
          rw [give_swap1 hin hq (by omega)]
          simpa using fin _ (p1 c3)
        · simp [c3, G_put_right, -o_ix]
          refine ix_map (f := nD) (xs := now) (by simp) _ (atI_at0 hin) ?_
          simp [-o_ix]
          refine ix_map (f := nD) (xs := now) (by simp) _ (atI_at0 hq) ?_
          simp [-o_ix]
          refine ⟨s1, s2, now, goal, made, x, q, _, rfl, ⟨hin, hq, by omega, by omega, Z.sm (bd_sub b1 b2) (by omega), s1, s2⟩, ?_⟩
          rw [give_swap2 hin hq (by omega)]
          simpa using fin _ (p2 c3)
      · simp [c2, -o_ix]
        refine hK' _ _ (by omega) ⟨q + 1, by simp [lev], rfl, by omega, ?_⟩
        by_cases e : q = o
        · subst e; exact absurd o3 c2
        · omega
  · rintro ρ ⟨now, made, s1, s2, rfl, hp, ln, hpre, P, hml⟩
    refine ⟨still_nil _, ?_⟩
    rw [List.length_range] at hpre hml
    have e : now = goal := ext_at0 hp.length_eq fun k hk => hpre k (by omega)
    subst e
    simp
    exact hR made P hml⟩
end DL

/-! DM23 -/
set_option exponentiation.threshold 100
namespace DL
open PySem PySem.Spec PyProof.Rows L2 LC

/-! ## between -/
def sp_check_steps : Spec := fun ss R => ∃ q : List Rat, ss = [vR q] ∧ (1 ≤ q.length ∧ q.length ≤ 24) ∧ R (.val .non) ss
@[simp ↓, simp] theorem check_steps_eq (q : List Rat) (R : Fd → List Sl → Prop) : sp_check_steps [vR q] R = ((1 ≤ q.length ∧ q.length ≤ 24) ∧ R (.val .non) [vR q]) := ex1 vR_inj q
def G_check_steps' (x : Str) (y : Str) : Gam := { fn := [(x, sp_are_numbers)], cst := [(y, .int 24)] }
abbrev G_check_steps : Gam := G_check_steps' "are_numbers" "MOST_STEPS"
theorem b_check_steps' (x : Str) (y : Str) : Body (G_check_steps' x y) 1 1 c_check_steps sp_check_steps := ⟨by
  rintro _ R ⟨q, rfl, ⟨h1, h2⟩, h⟩
  refine ⟨rfl, by simp, ?_⟩
  show wpSs _ _ [vR q] _
  simp [c_check_steps, G_check_steps']
  exact ⟨⟨by omega, by omega, by omega⟩, h⟩⟩
theorem b_check_steps : Body G_check_steps 1 1 c_check_steps sp_check_steps := b_check_steps' "are_numbers" "MOST_STEPS"
def lvsD (ls : List Lvl) : DL.D := .tup (ls.map lvD)
def optL : Option (List Lvl) → DL.D
  | none => .non
  | some ls => lvsD ls
@[simp ↓, simp] theorem non_optL (o : Option (List Lvl)) : isNon (.val (optL o)) = o.isNone := by cases o <;> rfl
@[simp ↓, simp] theorem non_lvs (o : List Lvl) : isNon (.val (lvsD o)) = false := rfl
def sp_between : Spec := fun ss R => ∃ (D M : Nat) (a g : List Rat), ss = [vR a, vR g] ∧ (SzOk D M ∧ a.length = g.length ∧ 1 ≤ a.length ∧ a.length ≤ 24 ∧ (∀ x ∈ a, bd D M x) ∧ ∀ x ∈ g, bd D M x) ∧
  ∀ o : Option (List Lvl), (∀ ls, o = some ls → Play D M a ls g ∧ ls.length ≤ 2 * a.length) → (Led a g → o.isSome = true) → R (.val (optL o)) ss
def G_between : Gam := { fn := [("check_steps", sp_check_steps)], ini := [(.Levels, "Levels", spI_Levels)], met := [(.Levels, "put_right", sp_put_right), (.Levels, "evened", sp_evened)], cls := [.Levels] }
theorem b_between : Body G_between 3 2 c_between sp_between := ⟨by
  rintro _ R ⟨D, M, a, g, rfl, ⟨Z, hl, h1, h2, ha, hg⟩, hR⟩
  refine ⟨rfl, by simp, ?_⟩
  show wpSs _ _ [vR a, vR g, .non] _
  simp [c_between, G_between, h1, h2, ← hl, lev]
  refine ⟨D, M, a, g, rfl, ⟨Z, hl.symm, by omega, ha, hg⟩, fun b now made P ln bn hm hperm hled => ?_⟩
  simp [lev]
  cases b with
  | false =>
    simp
    exact hR none (fun ls z => by cases z) fun L => (hled L)
  | true =>
    simp [G_between]
    refine ⟨D, M, a, now, g, made, rfl, ⟨Z, hperm rfl, by omega, by omega, P, hg⟩, fun made' P' hm' => ?_⟩
    simp [lev]
    exact hR (some made') (fun ls z => by cases z; exact ⟨P', by omega⟩) fun _ => rfl⟩
/-! ## levelled -/
def sp_is_place : Spec := fun ss R => ∃ i n : Int, ss = [vI i, vI n] ∧ R (.val (.bl (decide (0 ≤ i) && decide (i < n)))) ss
@[simp ↓, simp] theorem is_place_eq (i n : Int) (R : Fd → List Sl → Prop) : sp_is_place [vI i, vI n] R = R (.val (.bl (decide (0 ≤ i) && decide (i < n)))) [vI i, vI n] := ex2 vI_inj vI_inj i n
theorem b_is_place (Γ : Gam) : Body Γ 2 2 c_is_place sp_is_place := ⟨by
  rintro _ R ⟨i, n, rfl, h⟩
  refine ⟨rfl, by simp, ?_⟩
  show wpSs _ _ [vI i, vI n] _
  simp [c_is_place]
  by_cases c : 0 ≤ i <;> simp [c] at h ⊢ <;> exact h⟩
abbrev vLv (l : Lvl) : Sl := .fd (.val (lvD l))
def vldB (now : List Rat) (l : Lvl) : Bool := decide (l.1 < now.length) && (decide (l.2.1 < now.length) && (decide (0 < l.2.2) && decide (l.2.2 ≤ at0 now l.1 - at0 now l.2.1)))
@[simp ↓ high, simp high] theorem isi_lv (p : Lvl) (t : Ty) (Q : Bool → Prop) : wpIsi (.val (lvD p)) t Q = (True ∧ Q (isiD (lvD p) t)) := by simp [wpIsi, lvD, isVal]
@[simp ↓ high, simp high] theorem isiD_lv (p : Lvl) : isiD (lvD p) .tuple = true := rfl
@[simp ↓ high, simp high] theorem seq_lv (ρ : Env) (t : Lvl) : seqOf ρ (.val (lvD t)) = some [.int (t.1 : Int), .int (t.2.1 : Int), nD t.2.2] := rfl
@[simp ↓ high, simp high] theorem ix_lv0 (ρ : Env) (t : Lvl) (Q : QE) : wpIx ρ (.val (lvD t)) (.val (.int 0)) Q = Q (.val (.int t.1)) ρ := by
  apply propext
  exact ⟨fun ⟨d, h, q⟩ => by cases h; exact q, fun h => ⟨_, rfl, h⟩⟩
@[simp ↓ high, simp high] theorem ix_lv1 (ρ : Env) (t : Lvl) (Q : QE) : wpIx ρ (.val (lvD t)) (.val (.int 1)) Q = Q (.val (.int t.2.1)) ρ := by
  apply propext
  exact ⟨fun ⟨d, h, q⟩ => by cases h; exact q, fun h => ⟨_, rfl, h⟩⟩
@[simp ↓ high, simp high] theorem ix_lv2 (ρ : Env) (t : Lvl) (Q : QE) : wpIx ρ (.val (lvD t)) (.val (.int 2)) Q = Q (.val (nD t.2.2)) ρ := by
  apply propext
  exact ⟨fun ⟨d, h, q⟩ => by cases h; exact q, fun h => ⟨_, rfl, h⟩⟩
def sp_is_levelling : Spec := fun ss R => ∃ (D M : Nat) (now : List Rat) (l : Lvl), ss = [sL now, vLv l] ∧ (SzOk D M ∧ now.length ≤ 1000 ∧ (∀ x ∈ now, bd D M x) ∧ bd D (M + M) l.2.2) ∧ R (.val (.bl (vldB now l))) ss
def G_is_levelling : Gam := { fn := [("is_less", sp_is_less), ("taken", sp_taken), ("is_place", sp_is_place), ("is_number", sp_is_number)], cst := [("NOUGHT", nD 0)] }
theorem b_is_levelling : Body G_is_levelling 2 2 c_is_levelling sp_is_levelling := ⟨by
  rintro _ R ⟨D, M, now, l, rfl, ⟨Z, hn, hb, hl⟩, hR⟩
  refine ⟨rfl, ⟨.inr rfl, by simp⟩, ?_⟩
  show wpSs _ _ [sL now, vLv l] _
  have sl := Z.sm hl (by omega)
  simp [c_is_levelling, G_is_levelling, -o_ix]
  unfold vldB at hR
  by_cases c1 : l.1 < now.length
  · have c1' : (l.1 : Int) < (now.length : Int) := by omega
    by_cases c2 : l.2.1 < now.length
    · have c2' : (l.2.1 : Int) < (now.length : Int) := by omega
      by_cases c3 : 0 < l.2.2
      · simp [c1, c2, c3, c1', c2', sl, sm0, G_is_levelling, -o_ix] at hR ⊢
        have b1 : bd D M (at0 now l.1) := at0_mem hb _ c1
        have b2 : bd D M (at0 now l.2.1) := at0_mem hb _ c2
        refine ix_map (f := nD) (xs := now) (by simp) _ (atI_at0 c1) ?_
        simp [-o_ix]
        refine ix_map (f := nD) (xs := now) (by simp) _ (atI_at0 c2) ?_
        simp [-o_ix]
        refine ⟨Z.sm b1 (by omega), Z.sm b2 (by omega), Z.sm (bd_sub b1 b2) (by omega), sl, ?_⟩
        have e : decide (l.2.2 ≤ at0 now l.1 - at0 now l.2.1) = !decide (at0 now l.1 - at0 now l.2.1 < l.2.2) := by
          by_cases c : at0 now l.1 - at0 now l.2.1 < l.2.2
          · rw [decide_eq_true c, decide_eq_false (Rat.not_le.mpr c)]; rfl
          · rw [decide_eq_false c, decide_eq_true (Rat.not_lt.mp c)]; rfl
        rw [e] at hR
        first
          | exact hR
          | (simp at hR ⊢; exact hR)
      · simp [c1, c2, c3, c1', c2', sl, sm0] at hR ⊢
        exact hR
    · have c2' : ¬ (l.2.1 : Int) < (now.length : Int) := by omega
      simp [c1, c2, c1', c2'] at hR ⊢
      exact hR
  · have c1' : ¬ (l.1 : Int) < (now.length : Int) := by omega
    simp [c1, c1'] at hR ⊢
    exact hR⟩
end DL

/-! DM24 -/
set_option exponentiation.threshold 100
namespace DL
open PySem PySem.Spec PyProof.Rows L2 LC

/-! ## levelled -/
def runF (a : List Rat) (ls : List Lvl) : List Rat := ls.foldl giveF a
theorem runF_length : ∀ (ls : List Lvl) (a : List Rat), (runF a ls).length = a.length
  | [], a => rfl
  | l :: ls, a => by
    show (runF (giveF a l) ls).length = _
    rw [runF_length ls, giveF_length]
theorem runF_snoc (a : List Rat) (ls : List Lvl) (l : Lvl) : runF a (ls ++ [l]) = giveF (runF a ls) l := by unfold runF; rw [List.foldl_append]; rfl
theorem play_run {D M : Nat} {a b : List Rat} {ls : List Lvl} (P : Play D M a ls b) : b = runF a ls ∧ (∀ k, k < b.length → bd D M (at0 b k)) ∧ ∀ (k : Nat) (l : Lvl), ls[k]? = some l → vld (runF a (ls.take k)) l ∧ bd D (M + M) l.2.2 ∧ ∀ x ∈ runF a (ls.take k), bd D M x := by
  induction P with
  | nil h => exact ⟨rfl, h, fun k l hk => by simp at hk⟩
  | snoc P v bl bb ih =>
    rename_i ls b l
    obtain ⟨h1, h2, h3⟩ := ih
    refine ⟨by rw [runF_snoc, ← h1], fun k hk => bb k (by rw [giveF_length] at hk; exact hk), fun k l' hk => ?_⟩
    by_cases c : k < ls.length
    · rw [List.getElem?_append_left c] at hk
      rw [List.take_append_of_le_length (by omega)]
      exact h3 k l' hk
    · have hk2 := (List.getElem?_eq_some_iff.mp hk).1
      simp at hk2
      have e : k = ls.length := by omega
      subst e
      have el : l' = l := by simpa using hk.symm
      subst el
      rw [List.take_append_of_le_length (Nat.le_refl _), List.take_length, ← h1]
      exact ⟨v, bl, mem_at0 h2⟩
theorem vld_B {now : List Rat} {l : Lvl} (h : vld now l) : vldB now l = true := by
  obtain ⟨h1, h2, _, h4, h5⟩ := h
  unfold vldB
  simp [h1, h2, h4, h5]
theorem numbered_map {α : Type} (f : α → DL.D) : ∀ (xs : List α) (k : Nat), numbered k (xs.map f) = (xs.zipIdx k).map fun p => .tup [.int (p.2 : Int), f p.1]
  | [], _ => rfl
  | x :: xs, k => by
    rw [List.map_cons, numbered, numbered_map f xs (k + 1), List.zipIdx_cons, List.map_cons]
def sp_levelled : Spec := fun ss R => ∃ (D M : Nat) (a b : List Rat) (ls : List Lvl), ss = [vR a, .fd (.val (lvsD ls))] ∧ (SzOk D M ∧ 1 ≤ a.length ∧ a.length ≤ 24 ∧ ls.length ≤ 1000 ∧ Play D M a ls b) ∧ R (.val (rowD b)) ss
def G_levelled : Gam := { fn := [("added", sp_added), ("taken", sp_taken), ("is_levelling", sp_is_levelling), ("check_steps", sp_check_steps)] }
theorem b_levelled : Body G_levelled 8 2 c_levelled sp_levelled := ⟨by
  rintro _ R ⟨D, M, a, b, ls, rfl, ⟨Z, h1, h2, h3, P⟩, hR⟩
  refine ⟨rfl, by simp, ?_⟩
  show wpSs _ _ [vR a, .fd (.val (lvsD ls)), .non, .non, .non, .non, .non, .non] _
  obtain ⟨e1, _, e3⟩ := play_run P
  simp [c_levelled, G_levelled, h1, h2, -o_ix]
  refine ⟨rfl, rfl, ?_⟩
  refine fr_rule ⟨ls.zipIdx.map fun p => .tup [.int (p.2 : Int), lvD p.1], []⟩ [vR a, .fd (.val (lvsD ls)), sL a, .non, .non, .non, .non, .non] (fun K hK => ?_) rfl ?_
  · rw [← numbered_map] at hK
    exact hK
  refine for_map _ ls.zipIdx (fun i ρ => ∃ s3 s4 s5 s6 s7, ρ = [vR a, .fd (.val (lvsD ls)), sL (runF a (ls.take i)), s3, s4, s5, s6, s7]) ⟨.non, .non, .non, .non, .non, rfl⟩ ?_ ?_
  · rintro i x ρ K hx ⟨s3, s4, s5, s6, s7, rfl⟩
    refine ⟨still_nil _, fun hK => ?_⟩
    obtain ⟨l, j⟩ := x
    have hx' : ls[i]? = some l ∧ j = i := by
      rw [List.getElem?_zipIdx] at hx
      obtain ⟨y, hy, e⟩ := Option.map_eq_some_iff.mp hx
      cases e
      exact ⟨hy, by omega⟩
    obtain ⟨hl, rfl⟩ := hx'
    obtain ⟨v, bl, bn⟩ := e3 j l hl
    have hj := (List.getElem?_eq_some_iff.mp hl).1
    have en : runF a (ls.take (j + 1)) = giveF (runF a (ls.take j)) l := by
      rw [List.take_succ, hl]; exact runF_snoc _ _ _
    have lnow : (runF a (ls.take j)).length = a.length := runF_length _ _
    generalize runF a (ls.take j) = now at *
    obtain ⟨g, tk, am⟩ := l
    obtain ⟨v1, v2, v3, v4, v5⟩ := id v
    have s1 : sm (at0 now g) := Z.sm (at0_mem bn _ v1) (by omega)
    have s2 : sm (at0 now tk) := Z.sm (at0_mem bn _ v2) (by omega)
    have s3 : sm am := Z.sm bl (by omega)
    simp [frStep_eq, G_levelled, -o_ix]
    refine ⟨D, M, now, (g, tk, am), rfl, ⟨Z, by omega, bn, bl⟩, ?_⟩
    rw [vld_B v]
    simp [lvD, G_levelled, -o_ix]
    have v1 : g < now.length := v1
    have v2 : tk < now.length := v2
    have v3 : g ≠ tk := v3
    refine ix_map (f := nD) (xs := now) (by simp) _ (atI_at0 v1) ?_
    simp [-o_ix]
    refine ⟨s1, s3, g, ⟨v1, rfl⟩, ?_⟩
    have e0 : (now.map nD).set g (nD (at0 now g - am)) = (now.set g (at0 now g - am)).map nD := List.map_set.symm
    rw [e0]
    have e1 : at0 (now.set g (at0 now g - am)) tk = at0 now tk := by
      rw [at0_set v1, if_neg v3]
    refine ix_map (f := nD) (xs := now.set g (at0 now g - am)) (by simp) _ (atI_at0 (by rw [List.length_set]; exact v2)) ?_
    rw [e1]
    simp [-o_ix, -List.map_set]
    refine ⟨s2, s3, tk, ⟨v2, rfl⟩, ?_⟩
    have e2 : ((now.set g (at0 now g - am)).map nD).set tk (nD (at0 now tk + am)) = (giveF now (g, tk, am)).map nD := List.map_set.symm
    rw [e2]
    rw [← en]
    exact hK _ ⟨_, _, _, _, _, rfl⟩
  · rintro ρ ⟨s3, s4, s5, s6, s7, rfl⟩
    refine ⟨still_nil _, ?_⟩
    rw [List.length_zipIdx, List.take_length, ← e1]
    simp
    exact hR⟩
end DL

/-! DM25 -/
set_option exponentiation.threshold 100
namespace DL
open PySem PySem.Spec PyProof.Rows L2 LC

/-! ## jobs -/
abbrev Job := Nat × Nat × Rat
def jAr (j : Job) : Nat := j.1
def jDu (j : Job) : Nat := j.2.1
def jWk (j : Job) : Rat := j.2.2
def jobD (j : Job) : DL.D := .tup [.int (jAr j : Int), .int (jDu j : Int), nD (jWk j)]
abbrev vJ (j : Job) : Sl := .fd (.val (jobD j))
def jobsD (js : List Job) : DL.D := .tup (js.map jobD)
abbrev vJs (js : List Job) : Sl := .fd (.val (jobsD js))
theorem jobD_inj {p q : Job} : jobD p = jobD q ↔ p = q := by
  refine ⟨fun h => ?_, fun h => by rw [h]⟩
  obtain ⟨a, b, c⟩ := p
  obtain ⟨a', b', c'⟩ := q
  unfold jobD at h
  injection h with h
  have h1 := List.cons.inj h
  have h2 := List.cons.inj h1.2
  have h3 := List.cons.inj h2.2
  have e1 := h1.1
  have e2 := h2.1
  injection e1 with e1
  injection e2 with e2
  have e3 := nD_inj.mp h3.1
  simp only [jAr, jDu, jWk] at e1 e2 e3
  have e1 : a = a' := by omega
  have e2 : b = b' := by omega
  rw [e1, e2, e3]
theorem vJ_inj (a b : Job) (h : vJ a = vJ b) : a = b := by injection h with h; injection h with h; exact jobD_inj.mp h
theorem vJs_inj (a b : List Job) (h : vJs a = vJs b) : a = b := by
  injection h with h; injection h with h; unfold jobsD at h; injection h with h
  exact map_inj (fun a b e => jobD_inj.mp e) h
@[simp ↓ high, simp high] theorem isi_J (p : Job) (t : Ty) (Q : Bool → Prop) : wpIsi (.val (jobD p)) t Q = (True ∧ Q (isiD (jobD p) t)) := by simp [wpIsi, jobD, isVal]
@[simp ↓ high, simp high] theorem isi_Js (p : List Job) (t : Ty) (Q : Bool → Prop) : wpIsi (.val (jobsD p)) t Q = (True ∧ Q (isiD (jobsD p) t)) := by simp [wpIsi, jobsD, isVal]
@[simp ↓ high, simp high] theorem isiD_J (p : Job) : isiD (jobD p) .tuple = true := rfl
@[simp ↓ high, simp high] theorem isiD_Js (p : List Job) : isiD (jobsD p) .tuple = true := rfl
@[simp ↓ high, simp high] theorem seq_J (ρ : Env) (t : Job) : seqOf ρ (.val (jobD t)) = some [.int (jAr t : Int), .int (jDu t : Int), nD (jWk t)] := rfl
@[simp ↓ high, simp high] theorem seq_Js (ρ : Env) (t : List Job) : seqOf ρ (.val (jobsD t)) = some (t.map jobD) := rfl
@[simp ↓ high, simp high] theorem it_Js (ρ : Env) (t : List Job) (K : Items → Env → Prop) : wpSeq ρ (.val (jobsD t)) K = K ⟨t.map jobD, []⟩ ρ := rfl
@[simp ↓ high, simp high] theorem ix_J0 (ρ : Env) (t : Job) (Q : QE) : wpIx ρ (.val (jobD t)) (.val (.int 0)) Q = Q (.val (.int (jAr t))) ρ := by
  apply propext
  exact ⟨fun ⟨d, h, q⟩ => by cases h; exact q, fun h => ⟨_, rfl, h⟩⟩
@[simp ↓ high, simp high] theorem ix_J1 (ρ : Env) (t : Job) (Q : QE) : wpIx ρ (.val (jobD t)) (.val (.int 1)) Q = Q (.val (.int (jDu t))) ρ := by
  apply propext
  exact ⟨fun ⟨d, h, q⟩ => by cases h; exact q, fun h => ⟨_, rfl, h⟩⟩
@[simp ↓ high, simp high] theorem ix_J2 (ρ : Env) (t : Job) (Q : QE) : wpIx ρ (.val (jobD t)) (.val (.int 2)) Q = Q (.val (nD (jWk t))) ρ := by
  apply propext
  exact ⟨fun ⟨d, h, q⟩ => by cases h; exact q, fun h => ⟨_, rfl, h⟩⟩
def JobOk (j : Job) : Prop := jAr j < jDu j ∧ jDu j ≤ 24 ∧ 0 < jWk j ∧ sm (jWk j)
def sp_is_job : Spec := fun ss R => ∃ j : Job, ss = [vJ j] ∧ JobOk j ∧ R (.val (.bl true)) ss
@[simp ↓, simp] theorem is_job_eq (j : Job) (R : Fd → List Sl → Prop) : sp_is_job [vJ j] R = (JobOk j ∧ R (.val (.bl true)) [vJ j]) := ex1 vJ_inj j
def G_is_job : Gam := { fn := [("is_number", sp_is_number), ("is_less", sp_is_less), ("is_whole", sp_is_whole)], cst := [("LAST_HOUR", .int 24), ("NOUGHT", nD 0)] }
theorem b_is_job : Body G_is_job 1 1 c_is_job sp_is_job := ⟨by
  rintro _ R ⟨j, rfl, ⟨h1, h2, h3, h4⟩, h⟩
  refine ⟨rfl, by simp, ?_⟩
  show wpSs _ _ [vJ j] _
  have e1 : (jAr j : Int) < (jDu j : Int) := by omega
  have e2 : (jDu j : Int) ≤ 24 := by omega
  simp [c_is_job, G_is_job, h1, e2, h3, h4, sm0]
  exact h⟩
theorem pairs_map {α β : Type} (f : α → DL.D) (g : β → DL.D) : ∀ (xs : List α) (ys : List β), pairs (xs.map f) (ys.map g) = (xs.zip ys).map fun p => .tup [f p.1, g p.2]
  | [], _ => rfl
  | _ :: _, [] => rfl
  | x :: xs, y :: ys => by
    rw [List.map_cons, List.map_cons, pairs, pairs_map f g xs ys, List.zip_cons_cons, List.map_cons]
structure JobsOk (js : List Job) : Prop where
  l1 : 1 ≤ js.length
  l2 : js.length ≤ 12
  ok : ∀ j ∈ js, JobOk j
  ff : Fifo jAr jDu js
theorem cut_1 {α : Type} (xs : List α) : cut xs (some 1) none = xs.drop 1 := by
  unfold cut HT.sIx
  simp
  cases xs with
  | nil => rfl
  | cons x xs => simp
def sp_is_jobs : Spec := fun ss R => ∃ js : List Job, ss = [vJs js] ∧ JobsOk js ∧ R (.val (.bl true)) ss
@[simp ↓, simp] theorem is_jobs_eq (j : List Job) (R : Fd → List Sl → Prop) : sp_is_jobs [vJs j] R = (JobsOk j ∧ R (.val (.bl true)) [vJs j]) := ex1 vJs_inj j
def G_is_jobs' (x : Str) (y : Str) : Gam := { fn := [(x, sp_is_job)], cst := [(y, .int 12)] }
abbrev G_is_jobs : Gam := G_is_jobs' "is_job" "MOST_JOBS"
theorem b_is_jobs' (x : Str) (y : Str) : Body (G_is_jobs' x y) 3 1 c_is_jobs sp_is_jobs := ⟨by
  rintro _ R ⟨js, rfl, J, h⟩
  refine ⟨rfl, by simp, ?_⟩
  show wpSs _ _ [vJs js, .non, .non] _
  have l1 := J.l1
  have l2 := J.l2
  have e1 : (1 : Int) ≤ (js.length : Int) := by omega
  have e2 : (js.length : Int) ≤ 12 := by omega
  simp [c_is_jobs, G_is_jobs', e1, e2]
  refine lc_all [vJs js, .non, .non] [] jobD (fun _ => .bl true) js (fun K hK => by simp; exact hK) (by omega) (still_nil _) (fun x hx K hK => ?_) ?_
  · simp [lcStep_eq] at hK ⊢
    exact ⟨J.ok x hx, hK⟩
  · simp
    refine all_true js _ ?_
    simp [all_tt]
    refine fr_rule ⟨(js.zip (js.drop 1)).map fun p => .tup [jobD p.1, jobD p.2], []⟩ [vJs js, .non, .non] (fun K hK => ?_) rfl ?_
    · rw [← pairs_map, List.map_drop] at hK
      have e : cut (js.map jobD) (some 1) none = (js.map jobD).drop 1 := cut_1 _
      rw [← e] at hK
      exact hK
    refine for_map _ (js.zip (js.drop 1)) (fun i ρ => ∃ s1 s2, ρ = [vJs js, s1, s2]) ⟨_, _, rfl⟩ ?_ ?_
    · rintro i ⟨p, q⟩ ρ K hx ⟨s1, s2, rfl⟩
      refine ⟨still_nil _, fun hK => ?_⟩
      have hx' : js[i]? = some p ∧ js[i + 1]? = some q := by
        rw [List.getElem?_zip_eq_some] at hx
        refine ⟨hx.1, ?_⟩
        have := hx.2
        rw [List.getElem?_drop] at this
        rw [Nat.add_comm]; exact this
      have hff : jAr p ≤ jAr q ∧ jDu p ≤ jDu q := by
        obtain ⟨i1, e1⟩ := List.getElem?_eq_some_iff.mp hx'.1
        obtain ⟨i2, e2⟩ := List.getElem?_eq_some_iff.mp hx'.2
        have := List.pairwise_iff_getElem.mp J.ff i (i + 1) i1 i2 (by omega)
        rw [e1, e2] at this
        exact this
      have f1 : ¬ (jAr q : Int) < (jAr p : Int) := by omega
      have f2 : ¬ (jDu q : Int) < (jDu p : Int) := by omega
      simp [frStep_eq, f1, f2]
      have g1 : ¬ jAr q < jAr p := by omega
      have g2 : ¬ jDu q < jDu p := by omega
      exact hK _ ⟨_, _, rfl⟩
    · rintro ρ ⟨s1, s2, rfl⟩
      refine ⟨still_nil _, ?_⟩
      simp
      exact h⟩
theorem b_is_jobs : Body G_is_jobs 3 1 c_is_jobs sp_is_jobs := b_is_jobs' "is_job" "MOST_JOBS"
def sp_check_jobs : Spec := fun ss R => ∃ js : List Job, ss = [vJs js] ∧ JobsOk js ∧ R (.val .non) ss
@[simp ↓, simp] theorem check_jobs_eq (j : List Job) (R : Fd → List Sl → Prop) : sp_check_jobs [vJs j] R = (JobsOk j ∧ R (.val .non) [vJs j]) := ex1 vJs_inj j
def G_check_jobs : Gam := { fn := [("is_jobs", sp_is_jobs)] }
theorem b_check_jobs : Body G_check_jobs 1 1 c_check_jobs sp_check_jobs := ⟨by
  rintro _ R ⟨js, rfl, J, h⟩
  refine ⟨rfl, by simp, ?_⟩
  show wpSs _ _ [vJs js] _
  simp [c_check_jobs, G_check_jobs]
  exact ⟨J, h⟩⟩
end DL

/-! DM26 -/
set_option exponentiation.threshold 100
namespace DL
open PySem PySem.Spec PyProof.Rows L2 LC

/-! ## job_tube, speeds -/
theorem bd_zero {D M : Nat} : bd D M 0 := by
  have h : (0 : Rat) ≤ (M : Rat) := by have := cast_le (Nat.zero_le M); simpa using this
  exact ⟨⟨0, by simp⟩, by grind, h⟩
theorem bd_sum {D N : Nat} : ∀ {xs : List Rat}, (∀ x ∈ xs, bd D N x) → bd D (xs.length * N) (sumL xs)
  | [], _ => bd_zero
  | x :: xs, h => by
    have h1 := h x List.mem_cons_self
    have h2 := bd_sum (xs := xs) fun y hy => h y (List.mem_cons_of_mem _ hy)
    have := bd_add h1 h2
    rw [List.length_cons, show (xs.length + 1) * N = N + xs.length * N by rw [Nat.add_mul]; omega]
    exact this
theorem bd_if {D N : Nat} {c : Prop} [Decidable c] {x : Rat} (h : bd D N x) : bd D N (if c then x else 0) := by split; exact h; exact bd_zero
def jLast (js : List Job) : Nat := (js.getD (js.length - 1) (0, 0, 0)).2.1
def jobTube (js : List Job) : List (Rat × Rat) := (List.range (jLast js + 1)).map fun h => (jLo jDu jWk js h, jHi jAr jWk js h)
theorem bd_jLo {D N : Nat} {js : List Job} (hb : ∀ j ∈ js, bd D N (jWk j)) (hl : js.length ≤ 12) (h : Nat) : bd D (12 * N) (jLo jDu jWk js h) ∧ bd D (12 * N) (jHi jAr jWk js h) := by
  have le : js.length * N ≤ 12 * N := Nat.mul_le_mul_right _ hl
  refine ⟨bd_le (M := js.length * N) ?_ le, bd_le (M := js.length * N) ?_ le⟩
  · have := bd_sum (D := D) (N := N) (xs := js.map fun j => if jDu j ≤ h then jWk j else 0) fun x hx => by
      obtain ⟨j, hj, rfl⟩ := List.mem_map.mp hx
      exact bd_if (hb j hj)
    rwa [List.length_map] at this
  · have := bd_sum (D := D) (N := N) (xs := js.map fun j => if jAr j < h then jWk j else 0) fun x hx => by
      obtain ⟨j, hj, rfl⟩ := List.mem_map.mp hx
      exact bd_if (hb j hj)
    rwa [List.length_map] at this
theorem jLo_take {α : Type} (du : α → Nat) (w : α → Rat) {js : List α} {i h : Nat} {j : α} (hj : js[i]? = some j) : jLo du w (js.take (i + 1)) h = if du j ≤ h then jLo du w (js.take i) h + w j else jLo du w (js.take i) h := by
  unfold jLo
  rw [List.take_succ, hj, List.map_append, sumL_append]
  simp only [Option.toList, List.map_cons, List.map_nil, sumL]
  split <;> grind
theorem jHi_take {α : Type} (ar : α → Nat) (w : α → Rat) {js : List α} {i h : Nat} {j : α} (hj : js[i]? = some j) : jHi ar w (js.take (i + 1)) h = if ar j < h then jHi ar w (js.take i) h + w j else jHi ar w (js.take i) h := by
  unfold jHi
  rw [List.take_succ, hj, List.map_append, sumL_append]
  simp only [Option.toList, List.map_cons, List.map_nil, sumL]
  split <;> grind
structure JbOk (D N : Nat) (js : List Job) : Prop where
  ok : JobsOk js
  d0 : 0 < D
  dd : D * K24 < 2 ^ 1000
  mm : 4 * (12 * N) * (D * K24) < 2 ^ 2000
  bw : ∀ j ∈ js, bd D N (jWk j)
theorem JbOk.sm {D N K : Nat} {js : List Job} (O : JbOk D N js) {q : Rat} (h : bd D K q) (hN : K ≤ 4 * (12 * N)) : DL.sm q :=
  sm_of (bd24 h) (Nat.mul_pos O.d0 (by decide)) (Nat.lt_of_lt_of_le O.dd (Nat.pow_le_pow_right (by decide) (by decide))) (Nat.lt_of_le_of_lt (Nat.mul_le_mul_right _ hN) O.mm)
def sp_job_tube : Spec := fun ss R => ∃ (D N : Nat) (js : List Job), ss = [vJs js] ∧ JbOk D N js ∧ R (.val (tubeD (jobTube js))) ss
def G_job_tube : Gam := { fn := [("added", sp_added), ("check_jobs", sp_check_jobs)], cst := [("NOUGHT", nD 0)] }
theorem b_job_tube : Body G_job_tube 8 1 c_job_tube sp_job_tube := ⟨by
  rintro _ R ⟨D, N, js, rfl, O, hR⟩
  refine ⟨rfl, by simp, ?_⟩
  show wpSs _ _ [vJs js, .non, .non, .non, .non, .non, .non, .non] _
  have l1 := O.ok.l1
  have l2 := O.ok.l2
  have hlast : js[js.length - 1]? = some (js.getD (js.length - 1) (0, 0, 0)) := by
    simp [List.getD, List.getElem?_eq_getElem (show js.length - 1 < js.length by omega)]
  have hd24 : jLast js ≤ 24 := (O.ok.ok _ (List.mem_of_getElem? hlast)).2.1
  have ne : js ≠ [] := fun z => by rw [z] at l1; simp at l1
  simp [c_job_tube, G_job_tube, O.ok, -o_ix]
  refine fr_rule ⟨intsL 0 (jLast js + 1), []⟩ [vJs js, sP [], .non, .non, .non, .non, .non, .non] (fun K hK => ?_) rfl ?_
  · simp [-o_ix]
    refine ix_map (f := jobD) (xs := js) (by simp) _ ((atI_last js ne).trans hlast) ?_
    simp
    have e : jDu (js.getD (js.length - 1) (0, 0, 0)) = jLast js := rfl
    simp only [List.getD] at e
    rw [e]
    exact ⟨by omega, hK⟩
  refine for_map (fun j : Nat => DL.D.int (0 + (j : Int))) (List.range (jLast js + 1)) (fun i ρ => ∃ s2 s3 s4 s5 s6 s7, ρ = [vJs js, sP ((List.range i).map fun h => (jLo jDu jWk js h, jHi jAr jWk js h)), s2, s3, s4, s5, s6, s7]) ⟨.non, .non, .non, .non, .non, .non, rfl⟩ ?_ ?_
  · rintro i x ρ K hx ⟨s2, s3, s4, s5, s6, s7, rfl⟩
    refine ⟨still_nil _, fun hK => ?_⟩
    have hi : i < jLast js + 1 := by
      have := (List.getElem?_eq_some_iff.mp hx).1
      simpa using this
    have ex : x = i := by
      rw [List.getElem?_range hi] at hx
      exact (Option.some.inj hx).symm
    subst ex
    simp [frStep_eq, G_job_tube, -o_ix]
    refine fr_rule ⟨js.map jobD, []⟩ [vJs js, sP ((List.range x).map fun h => (jLo jDu jWk js h, jHi jAr jWk js h)), vI x, vN 0, vN 0, s5, s6, s7] (fun K hK => ?_) rfl ?_
    · simpa using hK
    refine for_map jobD js (fun k ρ => ∃ s5 s6 s7, ρ = [vJs js, sP ((List.range x).map fun h => (jLo jDu jWk js h, jHi jAr jWk js h)), vI x, vN (jLo jDu jWk (js.take k) x), vN (jHi jAr jWk (js.take k) x), s5, s6, s7]) ⟨s5, s6, s7, rfl⟩ ?_ ?_
    · rintro k j ρ K' hj ⟨s5, s6, s7, rfl⟩
      refine ⟨still_nil _, fun hK' => ?_⟩
      have hb : ∀ j ∈ js.take k, bd D N (jWk j) := fun j hj => O.bw j (List.mem_of_mem_take hj)
      have ll : (js.take k).length ≤ 12 := by rw [List.length_take]; omega
      obtain ⟨b1, b2⟩ := bd_jLo hb ll x
      have sw := O.sm (O.bw j (List.mem_of_getElem? hj)) (by omega)
      have s1 := O.sm b1 (by omega)
      have s2 := O.sm b2 (by omega)
      have t1 := jLo_take jDu jWk (h := x) hj
      have t2 := jHi_take jAr jWk (h := x) hj
      by_cases c1 : jDu j ≤ x <;> by_cases c2 : jAr j < x
      all_goals
        simp only [c1, c2, if_true, if_false] at t1 t2
        simp [frStep_eq, jobD, G_job_tube, c1, c2, sw, s1, s2, -o_ix]
        exact hK' _ ⟨vI (jAr j), vI (jDu j), vN (jWk j), by rw [t1, t2]⟩
    · rintro ρ ⟨s5, s6, s7, rfl⟩
      refine ⟨still_nil _, ?_⟩
      rw [List.take_length]
      simp [-List.map_map]
      refine ⟨by omega, ?_⟩
      have e3 : ((List.range x).map fun h => (jLo jDu jWk js h, jHi jAr jWk js h)).map pairD ++ [DL.D.tup [nD (jLo jDu jWk js x), nD (jHi jAr jWk js x)]] = ((List.range (x + 1)).map fun h => (jLo jDu jWk js h, jHi jAr jWk js h)).map pairD := by
        rw [List.range_succ, List.map_append, List.map_append]; rfl
      rw [e3]
      exact hK _ ⟨_, _, _, _, _, _, rfl⟩
  · rintro ρ ⟨s2, s3, s4, s5, s6, s7, rfl⟩
    refine ⟨still_nil _, ?_⟩
    rw [List.length_range]
    simp [-List.map_map]
    exact hR⟩
end DL

/-! DM27 -/
set_option exponentiation.threshold 100
namespace DL
open PySem PySem.Spec PyProof.Rows L2 LC

/-! ## speeds -/
theorem jobTube_length (js : List Job) : (jobTube js).length = jLast js + 1 := by simp [jobTube]
theorem jobTube_at (js : List Job) {k : Nat} (hk : k ≤ jLast js) : loT (jobTube js) k = jLo jDu jWk js k ∧ hiT (jobTube js) k = jHi jAr jWk js k := by
  have e : (jobTube js)[k]? = some (jLo jDu jWk js k, jHi jAr jWk js k) := by
    unfold jobTube
    simp [show k < jLast js + 1 by omega]
  unfold loT hiT
  rw [List.getD, e]
  exact ⟨rfl, rfl⟩
theorem JobsOk.last {js : List Job} (J : JobsOk js) : jLast js ≤ 24 ∧ 1 ≤ jLast js ∧ ∀ j ∈ js, jAr j < jDu j ∧ jDu j ≤ jLast js := by
  have l1 := J.l1
  have hl : js.length - 1 < js.length := by omega
  have e : js.getD (js.length - 1) (0, 0, 0) = js[js.length - 1] := by simp [List.getD, hl]
  have ek : jLast js = jDu js[js.length - 1] := by unfold jLast jDu; rw [e]
  have o := J.ok _ (List.getElem_mem hl)
  refine ⟨by rw [ek]; exact o.2.1, by rw [ek]; have := o.1; omega, fun j hj => ⟨(J.ok j hj).1, ?_⟩⟩
  obtain ⟨i, hi, rfl⟩ := List.mem_iff_getElem.mp hj
  rw [ek]
  by_cases c : i = js.length - 1
  · subst c; exact Nat.le_refl _
  · exact (List.pairwise_iff_getElem.mp J.ff i (js.length - 1) hi hl (by omega)).2
theorem JbOk.tub {D N : Nat} {js : List Job} (O : JbOk D N js) : TubOk D (12 * N) (jobTube js) := by
  obtain ⟨a1, a2, a3⟩ := O.ok.last
  have pos : ∀ j ∈ js, 0 ≤ jWk j := fun j hj => Rat.le_of_lt (O.ok.ok j hj).2.2.1
  refine ⟨by rw [jobTube_length]; omega, by rw [jobTube_length]; omega, O.d0, O.dd, O.mm, fun p hp => ?_, ?_, ?_⟩
  · unfold jobTube at hp
    obtain ⟨k, hk, rfl⟩ := List.mem_map.mp hp
    obtain ⟨b1, b2⟩ := bd_jLo O.bw O.ok.l2 k
    exact ⟨b1, b2, jLo_Hi pos (fun j hj => (a3 j hj).1) k⟩
  · obtain ⟨e1, e2⟩ := jobTube_at js (Nat.zero_le _)
    rw [e1, e2]
    have z := jLo_zero (w := jWk) (ar := jAr) (du := jDu) (js := js) fun j hj => (a3 j hj).1
    rw [z.1, z.2]
  · rw [jobTube_length]
    obtain ⟨e1, e2⟩ := jobTube_at js (Nat.le_refl _)
    show loT (jobTube js) (jLast js) = hiT (jobTube js) (jLast js)
    rw [e1, e2]
    have z := jLo_all (w := jWk) (ar := jAr) (du := jDu) a3
    rw [z.1, z.2]
theorem taut_congr {lo hi lo' hi' R : Nat → Rat} {n : Nat} (h1 : ∀ k, k ≤ n → lo' k = lo k) (h2 : ∀ k, k ≤ n → hi' k = hi k) (T : Taut lo hi n R) : Taut lo' hi' n R := by
  refine ⟨fun k hk => ?_, fun k hk c => ?_, fun k hk c => ?_⟩
  · rw [h1 k hk, h2 k hk]; exact T.inn k hk
  · rw [h2 (k + 1) (by omega)]; exact T.up k hk c
  · rw [h1 (k + 1) (by omega)]; exact T.dn k hk c
def sp_speeds : Spec := fun ss R => ∃ (D N : Nat) (js : List Job), ss = [vJs js] ∧ JbOk D N js ∧
  ∀ row : List Rat, row.length = jLast js + 1 → Taut (jLo jDu jWk js) (jHi jAr jWk js) (jLast js) (at0 row) → (∀ y ∈ row, bd (D * K24) (12 * N) y) → R (.val (rowD (stepsL row))) ss
def G_speeds : Gam := { fn := [("steps", sp_steps), ("cord", sp_cord), ("job_tube", sp_job_tube)] }
theorem b_speeds : Body G_speeds 1 1 c_speeds sp_speeds := ⟨by
  rintro _ R ⟨D, N, js, rfl, O, hR⟩
  refine ⟨rfl, by simp, ?_⟩
  show wpSs _ _ [vJs js] _
  have T := O.tub
  obtain ⟨a1, a2, a3⟩ := O.ok.last
  simp [c_speeds, G_speeds]
  refine ⟨D, N, js, rfl, O, ?_⟩
  simp
  refine ⟨D, 12 * N, jobTube js, rfl, T, fun row h1 h2 h3 => ?_⟩
  rw [jobTube_length] at h1 h2
  simp
  exact ⟨⟨by omega, by omega, fun y hy => T.sm (h3 y hy) (by omega)⟩, hR row h1 (taut_congr (fun k hk => (jobTube_at js hk).1.symm) (fun k hk => (jobTube_at js hk).2.symm) h2) h3⟩⟩
end DL

/-! DH1 -/
namespace DL
open PySem PySem.Spec PyProof.Rows L2 He

/-! ## the head: facts, constants, promises -/
def Cn.str : Cn → Str
  | .Reach => "Reach" | .Levels => "Levels" | .Line => "Line" | .Funnel => "Funnel"
abbrev GG (K : PySem.W.Frag) (mg : Str → Option Value) : Cxt := ⟨K, mg, fun C => ga K C.str⟩
mutual
/-- a value of the written part that represents data -/
def repB (K : PySem.W.Frag) : DL.D → Value → Bool
  | .non, .none => true
  | .bl b, .bool c => b == c
  | .int i, .int j _ => decide (i = j)
  | .str s, .str t _ => decide (s = t)
  | .tup ds, .ref a => (match K.lookup a with
    | some ⟨.type c, _, .seq its _, _⟩ => decide (c = "tuple") && (decide (its.size ≤ sizeLine) && repsB K ds its.toList)
    | _ => false)
  | .fn x, .ref f => decide (f = ga K x) && (Fa.glo x).ok K
  | _, _ => false
def repsB (K : PySem.W.Frag) : List DL.D → List Value → Bool
  | [], [] => true
  | d :: ds, u :: us => repB K d u && repsB K ds us
  | _, _ => false
end
def cstB (K : PySem.W.Frag) (p : Str × DL.D) : Bool := match PySem.W.nsIn K mainGlobals p.1 with
  | some (some u) => repB K p.2 u
  | _ => false
section
variable {K : PySem.W.Frag} {mg : Str → Option Value} {base : Heap} (X : K.In base) (N : base.Ns mainGlobals mg)
mutual
theorem repB_ok (X : K.In base) (N : base.Ns mainGlobals mg) : ∀ {d : DL.D} {u : Value}, repB K d u = true → ∃ v, RelV v u ∧ ∀ H, Rep (GG K mg) H v d
  | .non, u, h => by cases u <;> first | exact ⟨.non, rfl, fun _ => .non⟩ | (unfold repB at h; cases h)
  | .bl b, u, h => by
    cases u <;> first | (unfold repB at h; cases h; done) | skip
    rename_i c
    have e : b = c := eq_of_beq (by unfold repB at h; exact h)
    subst e
    exact ⟨.bl b, rfl, fun _ => .bl b⟩
  | .int i, u, h => by
    cases u <;> first | (unfold repB at h; cases h; done) | skip
    rename_i c t
    have e : i = c := of_decide_eq_true (by unfold repB at h; exact h)
    subst e
    exact ⟨.int i, ⟨t, rfl⟩, fun _ => .int i⟩
  | .str i, u, h => by
    cases u <;> first | (unfold repB at h; cases h; done) | skip
    rename_i c t
    have e : i = c := of_decide_eq_true (by unfold repB at h; exact h)
    subst e
    exact ⟨.str i, ⟨t, rfl⟩, fun _ => .str i⟩
  | .tup ds, u, h => by
    cases u <;> first | (unfold repB at h; cases h; done) | skip
    rename_i a
    unfold repB at h
    cases q : K.lookup a with
    | none => rw [q] at h; cases h
    | some o =>
      obtain ⟨oc, od, dt, osl⟩ := o
      rw [q] at h
      cases oc <;> first | (cases h; done) | skip
      cases dt <;> first | (cases h; done) | skip
      rename_i c its n
      obtain ⟨h1, h2⟩ := ba (show (decide (c = "tuple") && (decide (its.size ≤ sizeLine) && repsB K ds its.toList)) = true from h)
      obtain ⟨h3, h4⟩ := ba h2
      obtain ⟨vs, r1, r2⟩ := repsB_ok X N h4
      exact ⟨.ref a, rfl, fun H => .tup (.inr ⟨_, its, n, q, congrArg Value.type (of_decide_eq_true h1), rfl, of_decide_eq_true h3, r1⟩) (r2 H)⟩
  | .lst ds, u, h => by cases u <;> (unfold repB at h; cases h)
  | .fn x, u, h => by
    cases u <;> first | (unfold repB at h; cases h; done) | skip
    rename_i f
    obtain ⟨h1, h2⟩ := ba (show (decide (f = ga K x) && (Fa.glo x).ok K) = true by unfold repB at h; exact h)
    have e : f = ga K x := of_decide_eq_true h1
    subst e
    exact ⟨.ref (ga K x), rfl, fun H => .fn (glo_ok X N h2)⟩
theorem repsB_ok (X : K.In base) (N : base.Ns mainGlobals mg) : ∀ {ds : List DL.D} {us : List Value}, repsB K ds us = true → ∃ vs, Vals vs us ∧ ∀ H, RepL (GG K mg) H vs ds
  | [], [], _ => ⟨[], .nil, fun _ => .nil⟩
  | [], _ :: _, h => by unfold repsB at h; cases h
  | _ :: _, [], h => by unfold repsB at h; cases h
  | d :: ds, u :: us, h => by
    obtain ⟨h1, h2⟩ := ba (show (repB K d u && repsB K ds us) = true by unfold repsB at h; exact h)
    obtain ⟨v, a, b⟩ := repB_ok X N h1
    obtain ⟨vs, c, e⟩ := repsB_ok X N h2
    exact ⟨v :: vs, .cons a c, fun H => .cons (b H) (e H)⟩
end
theorem cstB_ok (X : K.In base) (N : base.Ns mainGlobals mg) {p : Str × DL.D} (h : cstB K p = true) : ∃ v u, mg p.1 = some u ∧ RelV v u ∧ ∀ H, Rep (GG K mg) H v p.2 := by
  unfold cstB at h
  cases q : PySem.W.nsIn K mainGlobals p.1 with
  | none => rw [q] at h; cases h
  | some o =>
    rw [q] at h
    cases o with
    | none => cases h
    | some u =>
      obtain ⟨v, a, b⟩ := repB_ok X N h
      exact ⟨v, u, PySem.W.mg_of X N q, a, b⟩
end
/-- all that is told of a law's text -/
structure Txt where
  fa : List Fa
  fn : List DefD
  cs : List (Str × DL.D)
def Txt.ex (T : Txt) (K : PySem.W.Frag) : Bool := T.cs.all (cstB K)
/-- the looks at a text: over a part of the heap whose addresses are written down -/
def obsP (T : Txt) (as : List Addr) (g : Addr → Option Obj) : AlD × Bool := (obsD T.fa T.fn (frG g as), T.ex (frG g as))
def Txt.hook (T : Txt) (as : List Addr) : PySem.W.Hook where
  α := AlD × Bool
  obs := fun s => obsP T as s.heap.get?
  val := fun _ => (valD T.fn, true)
  says := fun _ h => ∃ K : PySem.W.Frag, K.In h ∧ SaysD T.fa T.fn K ∧ T.ex K = true
  of := fun _ _ e => ⟨_, frG_in, congrArg (fun z : AlD × Bool => z.1) e, congrArg (fun z : AlD × Bool => z.2) e⟩
  keeps := fun _ _ _ ⟨K, hK, c⟩ k => ⟨K, PySem.W.Frag.In.keeps hK k, c⟩
theorem obsP_eq {T : Txt} {as : List Addr} {g : Addr → Option Obj} {s : Shared} (h : ∀ a, g a = s.heap.get? a) : obsP T as g = (T.hook as).obs s := by
  have e : g = s.heap.get? := funext h
  rw [e] <;> rfl
/-- a run looked at in parts -/
theorem run_join {r : PySem.W.OpenRow} {q : Program} {H : PySem.W.Hook} {ob : PySem.W.SharedT → H.α} {M : Nat} {loose : List PySem.Str} {w : World}
    (h1 : ∀ os : OsState, (HandSHeadRun.endF (HandSHeadRun.stepQ (HandSHeadRun.denQ HandSHeadRun.tabQ) r.prog w) M r.prog w os).map (fun s => HandSHeadRun.looksF r.prog (PySem.W.boot_heap w.params) s.abs) = some true)
    (h2 : ∀ os : OsState, (HandSHeadRun.endF (HandSHeadRun.stepQ (HandSHeadRun.denQ HandSHeadRun.tabQ) r.prog w) M r.prog w os).map (fun s => HandSHeadRun.seenQ q loose (PySem.importedModules r.prog.main.body) (fun s => PySem.W.xlAt q [] s && PySem.W.recOk r.toRowW.records s) s.abs) = some (PySem.W.openGood q loose))
    (h3 : ∀ os : OsState, (HandSHeadRun.endF (HandSHeadRun.stepQ (HandSHeadRun.denQ HandSHeadRun.tabQ) r.prog w) M r.prog w os).map (fun s => ob s) = some (H.val w)) :
    HandSHeadRun.RunEq r q H ob M loose w := by
  intro os
  have a := h1 os
  have b := h2 os
  have c := h3 os
  revert a b c
  cases HandSHeadRun.endF (HandSHeadRun.stepQ (HandSHeadRun.denQ HandSHeadRun.tabQ) r.prog w) M r.prog w os with
  | none => intro a; cases a
  | some s =>
    intro a b c
    exact congrArg some (Prod.ext (Option.some.inj a) (Prod.ext (Option.some.inj b) (Option.some.inj c)))
/-- .. at a place -/
structure Told (T : Txt) (K : PySem.W.Frag) (mg : Str → Option Value) (base : Heap) : Prop where
  d : SaysD T.fa T.fn K
  ex : T.ex K = true
  X : K.In base
  N : base.Ns mainGlobals mg
section
variable {T : Txt} {K : PySem.W.Frag} {mg : Str → Option Value} {base : Heap} {P : Program} {w : World} {lv : Nat}
theorem fnil {α : Type} {p : α → Prop} : ∀ x ∈ ([] : List α), p x := fun _ h => by cases h
theorem fcons {α : Type} {p : α → Prop} {a : α} {l : List α} (h : p a) (t : ∀ x ∈ l, p x) : ∀ x ∈ a :: l, p x := fun x hx => by
  rcases List.mem_cons.mp hx with e | e
  · rw [e]; exact h
  · exact t x e
theorem Told.cst (t : Told T K mg base) {p : Str × DL.D} (h : p ∈ T.cs) : ∃ v u, (GG K mg).mg p.1 = some u ∧ RelV v u ∧ ∀ H, Rep (GG K mg) H v p.2 := cstB_ok t.X t.N (List.all_eq_true.mp t.ex p h)
theorem Told.blt (t : Told T K mg base) (h : (bnames.all fun x => T.fa.any fun f => match f with
    | .free y => decide (x = y)
    | _ => false) = true) : ∀ x ∈ bnames, (GG K mg).mg x = none := fun x hx => by
  obtain ⟨f, hf, e⟩ := List.any_eq_true.mp (List.all_eq_true.mp h x hx)
  cases f <;> first | (cases e; done) | skip
  rename_i y
  have e' : x = y := of_decide_eq_true e
  subst e'
  exact free_ok t.X t.N (t.d.facts hf)
/-- a def y that the module's name x stands for -/
def aliD (x y : Str) (st : Stmt) : DefD := ⟨(x, none), y, y, defArgs st, defBody st, defScope st, [], []⟩
abbrev topD (x : Str) (st : Stmt) : DefD := aliD x x st
def metD (C m q : Str) (st : Stmt) : DefD := ⟨(C, some m), m, q, defArgs st, defBody st, defScope st, [], []⟩
/-- parameters that are plain -/
def PsOk (x qual : Str) (st : Stmt) (ps : List Str) : Prop := ∀ (kV doc pm : Value) (an : Option Addr) (cdv ct : Value) (us : List Value), us.length = ps.length → bindArgs (PySem.W.fnOf x qual (defArgs st) (defBody st) (defScope st) .none kV doc pm an cdv ct) ⟨us, []⟩ = pure (ps.zip us)
theorem has_top (t : Told T K mg base) {x y : Str} {st : Stmt} {Γ : Gam} {N ps : List Str} {c : Ss} {S : Spec} (hd : aliD x y st ∈ T.fn) (hg : Fa.glo x ∈ T.fa) (hp : PsOk y y st ps)
    (hck : ckDef Γ N ps c st = true) (hb : Body Γ N.length ps.length c S) (W : Wo Γ (GG K mg) P w base lv) : Has P w base (GG K mg) (lv + 2) x S := by
  obtain ⟨fd, F⟩ := t.d.defs hd
  exact ⟨_, fd, ps, fn_of W F hck hb, glo_ok t.X t.N (t.d.facts hg), F.kp, FunD.bindsN F hp⟩
/-- a def that is not come to -/
def spN : Spec := fun _ _ => False
theorem has_none (t : Told T K mg base) {x y : Str} {st : Stmt} {N ps : List Str} (hd : aliD x y st ∈ T.fn) (hg : Fa.glo x ∈ T.fa) (hp : PsOk y y st ps) (hsc : scB N ps (defScope st) = true) : Has P w base (GG K mg) (lv + 2) x spN := by
  obtain ⟨fd, F⟩ := t.d.defs hd
  refine ⟨_, fd, ps, ?_, glo_ok t.X t.N (t.d.facts hg), F.kp, FunD.bindsN F hp⟩
  refine F.ok (scB_ok hsc) (fun vs H Q E h => ?_) fun cdv A outer s H vs Q E hr h => ?_
  · obtain ⟨ss, ft, R, a, hS, _⟩ := h
    exact hS.elim
  · obtain ⟨ss, ft, R, a, hS, _⟩ := h
    exact hS.elim
theorem has_ini (t : Told T K mg base) {C : Cn} {q : Str} {st : Stmt} {Γ : Gam} {N ps : List Str} {c : Ss} {S : ISpec} (hd : metD C.str "__init__" q st ∈ T.fn) (hg : Fa.glo C.str ∈ T.fa) (hm : Fa.mkr C.str ∈ T.fa) (hp : PsOk "__init__" q st ps)
    (hck : ckDef Γ N ps c st = true) (hb : BodyI Γ C N.length ps.length c S) (W : Wo Γ (GG K mg) P w base lv) : HasI P w base (GG K mg) (lv + 2) C C.str S := by
  obtain ⟨fd, F⟩ := t.d.defs hd
  exact hasI_of W F hck hb (mkr_ok (t.d.facts hm)) (glo_ok t.X t.N (t.d.facts hg)) (FunD.bindsN F hp)
theorem has_met (t : Told T K mg base) {C : Cn} {m q : Str} {st : Stmt} {Γ : Gam} {N ps : List Str} {c : Ss} {S : Spec} (hd : metD C.str m q st ∈ T.fn) (hc : Fa.cls C.str ∈ T.fa) (hm : Fa.meth C.str m ∈ T.fa) (hp : PsOk m q st ps) (nf : (Fn.all.all fun g => decide (g.str ≠ m)) = true)
    (hck : ckDef Γ N ps c st = true) (hb : Body Γ N.length ps.length c S) (W : Wo Γ (GG K mg) P w base lv) : HasM P w base (GG K mg) (lv + 2) C m S := by
  obtain ⟨fd, F⟩ := t.d.defs hd
  exact hasM_of W F hck hb (cls_ok (t.d.facts hc)) (meth_ok (t.d.facts hm)) (FunD.bindsN F hp) fun g => of_decide_eq_true (List.all_eq_true.mp nf g g.mem)
theorem Told.cls (t : Told T K mg base) {C : Cn} (h : (Fn.all.all fun g => !clsFd C g || T.fa.any fun f => match f with
    | .noat y z => decide (y = C.str) && decide (z = g.str)
    | _ => false) = true) (hc : Fa.cls C.str ∈ T.fa) : Cls (GG K mg).K ((GG K mg).cl C) ∧ ∀ f, clsFd C f = true → NoAttr (GG K mg).K ((GG K mg).cl C) f.str := by
  refine ⟨cls_ok (t.d.facts hc), fun f hf => ?_⟩
  have := List.all_eq_true.mp h f f.mem
  rw [hf] at this
  obtain ⟨g, hg, e⟩ := List.any_eq_true.mp (show (T.fa.any _) = true from this)
  cases g <;> first | (cases e; done) | skip
  rename_i y z
  obtain ⟨e1, e2⟩ := ba e
  have e1 := of_decide_eq_true e1
  have e2 := of_decide_eq_true e2
  subst e1
  subst e2
  exact noat_ok (t.d.facts hg)
end
/-- the law's own promise -/
def sp_law : Spec := fun ss R => ∃ ns : List Int, ss = [.fd (.val (.lst (ns.map DL.D.int)))] ∧ (ns.length ≤ 63 ∧ ∀ z ∈ ns, Builtin.Int.intBits z ≤ 1048576) ∧ R (.val (.bl true)) ss
theorem law_sp {K : PySem.W.Frag} {mg : Str → Option Value} {H : Hp} {a : Addr} {ns : List Int} (h1 : ns.length ≤ 63) (h2 : ∀ z ∈ ns, Builtin.Int.intBits z ≤ 1048576) (hO : Only H) (hS : SqL K H a (ns.map V.int)) :
    spOf (GG K mg) sp_law [.ref a] H (fun v _ => v = .bl true) fun _ _ _ => False := by
  refine ⟨[.fd (.val (.lst (ns.map DL.D.int)))], [ft0], fun r _ => r = .val (.bl true), ⟨?_, List.nodup_nil⟩, ⟨ns, rfl, ⟨h1, h2⟩, rfl⟩, ?_⟩
  · have rl : ∀ l : List Int, RepL (GG K mg) H (l.map V.int) (l.map DL.D.int) := fun l => by
      induction l with
      | nil => exact .nil
      | cons i l ih => exact .cons (.int i) ih
    refine ⟨⟨.ref a, rfl, ⟨rfl, .lst ?_ (rl ns)⟩, rfl⟩, trivial⟩
    rcases hS with (e | ⟨o, e⟩) | e
    · rcases hO a with z | ⟨o, xs, z⟩ <;> rw [e] at z <;> cases z
    · exact .inl ⟨o, e⟩
    · exact .inr e
  · intro r ss' v H' fr e _ hr _ _
    subst e
    obtain ⟨_, hr⟩ := hr
    cases hr
    rfl
/-- the end of a law's row, its script's bits told -/
theorem walk_end {l : PySem.W.OpenLaw} {k : Nat} {as : List Addr} {q : Program} {loose : List Str} {XP : (Str → Option Value) → Heap → Prop} {d : DefRec} {T : Txt} {x : Str}
    (hn : l.most = some 63) (hdf : d.params.defaults = []) (hr : Room k callerA) (hname : d.name = "law")
    (hx : ∀ (w : World) (mg : Str → Option Value) (K : PySem.W.Frag) (base : Heap), Told T K mg base → ∃ fd : FuncData, (∀ (s : Shared) (u : Value), BindsTo s fd ⟨[u], []⟩ [(x, u)]) ∧ ∀ base' : Heap, K.In base' → base'.Ns mainGlobals mg → FnOk l.prog w K mg base' CX0 k (ga K "law") fd [x] (spOf (GG K mg) sp_law))
    (hg : Fa.glo "law" ∈ T.fa) :
    PySem.W.WalkO q loose XP (T.hook as).says l.row.toRowW d [] fun f vs => PySem.call f vs := by
  refine Att.attach_callB hn hdf fun w s₀ s₁ mg mb fa o pm cd doc a vs ns G Y ho hd hcd hmg hobj hints hlen hbits hgen => ?_
  obtain ⟨K, KX, c⟩ := Y
  have t : Told T K mg s₁.heap := ⟨c.1, c.2, KX, G.T.g⟩
  obtain ⟨fd, hb, hF⟩ := hx w mg K _ t
  have e : fa = ga K "law" := by
    have e1 := glo_ok KX G.T.g (t.d.facts hg)
    rw [hname] at hmg
    rw [hmg] at e1
    injection e1 with e1
    injection e1
  subst e
  exact law_call KX G.T.g G.T.b G.T.builtins G.T.nolimit hgen hobj hints (Nat.le_trans hlen (by decide)) hr hF hb (fun H hO hS => law_sp hlen hbits hO hS) fun H e s' h => h
/-- the law's function object, of every heap -/
theorem law_fd {T : Txt} {K : PySem.W.Frag} {mg : Str → Option Value} {base : Heap} {P : Program} {w : World} {lv : Nat} {st : Stmt} {Γ : Gam} {N : List Str} {x : Str} {c : Ss} (t : Told T K mg base) (hd : topD "law" st ∈ T.fn) (hp : PsOk "law" "law" st [x])
    (hck : ckDef Γ N [x] c st = true) (hb : Body Γ N.length 1 c sp_law) (W : ∀ base' : Heap, Told T K mg base' → Wo Γ (GG K mg) P w base' lv) :
    ∃ fd : FuncData, (∀ (s : Shared) (u : Value), BindsTo s fd ⟨[u], []⟩ [(x, u)]) ∧ ∀ base' : Heap, K.In base' → base'.Ns mainGlobals mg → FnOk P w K mg base' CX0 (lv + 2) (ga K "law") fd [x] (spOf (GG K mg) sp_law) := by
  obtain ⟨fd, F⟩ := t.d.defs hd
  have b := FunD.bindsA F hp
  refine ⟨fd, fun s u => b s [u] rfl, fun base' X' N' => ?_⟩
  exact fn_of (W base' ⟨t.d, t.ex, X', N'⟩) F hck hb
end DL

/-! DN1 -/
set_option exponentiation.threshold 10
namespace DL
open PySem PySem.Spec PyProof.Rows L2 LC

/-! ## a law's own numbers -/
theorem low_pos {a b : Int} (hb : b ≠ 0) (hs : b.natAbs < 2 ^ 9000) (hlt : ¬ b < 0) : divOk (Int.gcd a b : Int) ∧ DL.D.tup [.int (a.fdiv (Int.gcd a b : Int)), .int (b.fdiv (Int.gcd a b : Int))] = nD (Rat.divInt a b) := by
  have hg : (Int.gcd a b : Int) ≠ 0 := by
    intro z
    have : Int.gcd a b = 0 := by omega
    exact hb (Int.gcd_eq_zero_iff.mp this).2
  have hga : (Int.gcd a b : Int) ∣ a := Int.gcd_dvd_left ..
  have hgb : (Int.gcd a b : Int) ∣ b := Int.gcd_dvd_right ..
  refine ⟨⟨hg, 9000, ?_, Nat.le_refl _, by decide⟩, ?_⟩
  · show (Int.gcd a b) < 2 ^ 9000
    exact Nat.lt_of_le_of_lt (Nat.le_of_dvd (Int.natAbs_pos.mpr hb) (Int.gcd_dvd_natAbs_right ..)) hs
  have e1 : (Rat.divInt a b).num = b.sign * a / (Int.gcd a b : Int) := by rw [Rat.num_divInt, Int.gcd_comm]
  have e2 : ((Rat.divInt a b).den : Int) = (b.natAbs : Int) / (Int.gcd a b : Int) := by rw [Rat.den_divInt, if_neg hb, Int.gcd_comm]; rfl
  unfold nD
  rw [e1, e2]
  generalize hG : (Int.gcd a b : Int) = g at *
  obtain ⟨a', rfl⟩ := hga
  obtain ⟨b', rfl⟩ := hgb
  rw [fdiv_exact hg (Int.dvd_mul_right ..), fdiv_exact hg (Int.dvd_mul_right ..), Int.mul_ediv_cancel_left _ hg, Int.mul_ediv_cancel_left _ hg]
  have z1 : (g * b').sign * (g * a') / g = a' := by
    rw [Int.sign_eq_one_of_pos (by omega), Int.one_mul, Int.mul_ediv_cancel_left _ hg]
  have z2 : (((g * b').natAbs : Nat) : Int) / g = b' := by
    rw [show (((g * b').natAbs : Nat) : Int) = g * b' by omega, Int.mul_ediv_cancel_left _ hg]
  rw [z1, z2]
theorem low_neg {a b : Int} (hb : b ≠ 0) (hs : b.natAbs < 2 ^ 9000) (hlt : b < 0) : divOk (-(Int.gcd a b : Int)) ∧ DL.D.tup [.int (a.fdiv (-(Int.gcd a b : Int))), .int (b.fdiv (-(Int.gcd a b : Int)))] = nD (Rat.divInt a b) := by
  have hg : (Int.gcd a b : Int) ≠ 0 := by
    intro z
    have : Int.gcd a b = 0 := by omega
    exact hb (Int.gcd_eq_zero_iff.mp this).2
  have hga : (Int.gcd a b : Int) ∣ a := Int.gcd_dvd_left ..
  have hgb : (Int.gcd a b : Int) ∣ b := Int.gcd_dvd_right ..
  refine ⟨⟨by omega, 9000, ?_, Nat.le_refl _, by decide⟩, ?_⟩
  · rw [Int.natAbs_neg]
    show (Int.gcd a b) < 2 ^ 9000
    exact Nat.lt_of_le_of_lt (Nat.le_of_dvd (Int.natAbs_pos.mpr hb) (Int.gcd_dvd_natAbs_right ..)) hs
  have e1 : (Rat.divInt a b).num = b.sign * a / (Int.gcd a b : Int) := by rw [Rat.num_divInt, Int.gcd_comm]
  have e2 : ((Rat.divInt a b).den : Int) = (b.natAbs : Int) / (Int.gcd a b : Int) := by rw [Rat.den_divInt, if_neg hb, Int.gcd_comm]; rfl
  unfold nD
  rw [e1, e2]
  generalize hG : (Int.gcd a b : Int) = g at *
  obtain ⟨a', rfl⟩ := hga
  obtain ⟨b', rfl⟩ := hgb
  rw [fdiv_exact (by omega) (Int.neg_dvd.mpr (Int.dvd_mul_right ..)), fdiv_exact (by omega) (Int.neg_dvd.mpr (Int.dvd_mul_right ..)), Int.ediv_neg, Int.ediv_neg, Int.mul_ediv_cancel_left _ hg, Int.mul_ediv_cancel_left _ hg]
  have z1 : (g * b').sign * (g * a') / g = -a' := by
    rw [Int.sign_eq_neg_one_of_neg hlt, show -1 * (g * a') = g * (-a') by rw [Int.mul_neg]; omega, Int.mul_ediv_cancel_left _ hg]
  have z2 : (((g * b').natAbs : Nat) : Int) / g = -b' := by
    rw [show (((g * b').natAbs : Nat) : Int) = g * (-b') by rw [Int.mul_neg]; omega, Int.mul_ediv_cancel_left _ hg]
  rw [z1, z2]
theorem b_w_low (Γ : Gam) : Body Γ 4 2 c_w_low sp_number := ⟨by
  rintro _ R ⟨a, b, rfl, hb, hs, h⟩
  refine ⟨rfl, by simp, ?_⟩
  show wpSs _ _ [vI a, vI b, .non, .non] _
  simp [c_w_low]
  refine whl_go (fun m ρ => ∃ x y : Nat, ρ = [vI a, vI b, vI x, vI y] ∧ m = y ∧ Nat.gcd x y = Int.gcd a b) _ ⟨_, _, rfl, rfl, rfl⟩ ?_
  rintro y ρ ⟨x, _, rfl, rfl, hg⟩ K hK
  simp [deq_int, okD_int]
  by_cases hy : y = 0
  · subst hy
    simp at hg
    subst hg
    by_cases c : b < 0
    · obtain ⟨d, e⟩ := low_neg (a := a) hb hs c
      simp [c, d, e, h]
    · obtain ⟨d, e⟩ := low_pos (a := a) hb hs c
      simp [c, d, e, h]
  · have hy' : ¬ ((y : Int) = 0) := by omega
    simp [hy, hy']
    refine hK (x % y) _ (Nat.mod_lt _ (Nat.pos_of_ne_zero hy)) ⟨y, x % y, ?_, rfl, ?_⟩
    · rw [Int.fmod_eq_emod_of_nonneg _ (by omega)]; rfl
    · rw [← hg, Nat.gcd_comm x y, Nat.gcd_comm y (x % y)]
      exact (Nat.gcd_rec y x).symm⟩
def G_low : Gam := { fn := [("_law_low", sp_number)] }
def sp_multiplied : Spec := sp2 (fun _ _ => True) fun p q => nD (p * q)
@[simp ↓, simp] theorem multiplied_eq (p q : Rat) (R : Fd → List Sl → Prop) : sp_multiplied [vN p, vN q] R = (sm p ∧ sm q ∧ True ∧ R (.val (nD (p * q))) [vN p, vN q]) := ex2 vN_inj vN_inj p q
theorem b_w_more : Body G_low 2 2 c_w_more sp_added := ⟨by
  rintro _ R ⟨p, q, rfl, hp, hq, _, h⟩
  refine ⟨rfl, by simp, ?_⟩
  show wpSs _ _ [vN p, vN q] _
  simp [c_w_more, G_low]
  refine ⟨hp.nd hq, hq.nd hp, hp.dd hq, ⟨p.den_nz, q.den_nz⟩, ?_, by rw [add_dd]; exact h⟩
  rw [Int.natAbs_mul]
  exact lt_4k (mul_2k hp.2 hq.2)⟩
theorem b_w_less_by : Body G_low 2 2 c_w_less_by sp_taken := ⟨by
  rintro _ R ⟨p, q, rfl, hp, hq, _, h⟩
  refine ⟨rfl, by simp, ?_⟩
  show wpSs _ _ [vN p, vN q] _
  simp [c_w_less_by, G_low]
  refine ⟨hp.nd hq, hq.nd hp, hp.dd hq, ⟨p.den_nz, q.den_nz⟩, ?_, by rw [sub_dd]; exact h⟩
  rw [Int.natAbs_mul]
  exact lt_4k (mul_2k hp.2 hq.2)⟩
theorem b_w_under (Γ : Gam) : Body Γ 2 2 c_w_under sp_is_less := ⟨by
  rintro _ R ⟨p, q, rfl, hp, hq, _, h⟩
  refine ⟨rfl, by simp, ?_⟩
  show wpSs _ _ [vN p, vN q] _
  simp [c_w_under]
  refine ⟨hp.nd hq, hq.nd hp, ?_⟩
  rw [show decide (p.num * q.den < q.num * p.den) = decide (p < q) from decide_eq_decide.mpr (Rat.lt_iff p q).symm]
  exact h⟩
/-! ## packs -/
abbrev sPk (n : Int) : Sl := .fd (.lst [.int n])
theorem sPk_inj {m n : Int} (h : sPk m = sPk n) : m = n := by
  injection h with h; injection h with h; injection h with h; injection h
def sp_w_take : Spec := fun ss R => ∃ n k : Int, ss = [sPk n, vI k] ∧ (0 ≤ n ∧ 0 < k ∧ k < 1073741824) ∧ R (.val (.int (n % k))) [sPk (n / k), vI k]
@[simp ↓, simp] theorem w_take_eq (n k : Int) (R : Fd → List Sl → Prop) : sp_w_take [sPk n, vI k] R = ((0 ≤ n ∧ 0 < k ∧ k < 1073741824) ∧ R (.val (.int (n % k))) [sPk (n / k), vI k]) :=
  propext ⟨fun ⟨x, y, e, h⟩ => by
    have e2 := List.cons.inj e
    rw [sPk_inj e2.1, vI_inj k y (List.cons.inj e2.2).1]; exact h, fun h => ⟨n, k, rfl, h⟩⟩
theorem b_w_take (Γ : Gam) : Body Γ 3 2 c_w_take sp_w_take := ⟨by
  rintro _ R ⟨n, k, rfl, ⟨h1, h2, h3⟩, h⟩
  refine ⟨rfl, ⟨.inr rfl, by simp⟩, ?_⟩
  show wpSs _ _ [sPk n, vI k, .non] _
  simp [c_w_take, h2, h3]
  exact h⟩
/-- a drawn figure -/
theorem digit {n k : Int} (h : 0 ≤ n) (hk : 0 < k) : 0 ≤ n / k ∧ ∃ j : Nat, n % k = (j : Int) ∧ (j : Int) < k := by
  refine ⟨Int.ediv_nonneg h (Int.le_of_lt hk), (n % k).toNat, ?_, ?_⟩
  · have := Int.emod_nonneg n (show k ≠ 0 by omega); omega
  · have := Int.emod_lt_of_pos n hk
    have := Int.emod_nonneg n (show k ≠ 0 by omega); omega
end DL

/-! DN2 -/
set_option exponentiation.threshold 100
namespace DL
open PySem PySem.Spec PyProof.Rows L2 LC

/-! ## drawn numbers -/
theorem bd_frac {D w : Nat} {t : Int} {b : Nat} (hb : 0 < b) (hd : b ∣ D) (ht : t.natAbs ≤ w) : bd D w (Rat.divInt t (b : Int)) := by
  obtain ⟨c, rfl⟩ := hd
  have b0 : (0 : Rat) < (b : Rat) := by have := cast_lt hb; simpa using this
  have bz : (b : Rat) ≠ 0 := fun e => by rw [e] at b0; exact Rat.lt_irrefl b0
  have b1 : (1 : Rat) ≤ (b : Rat) := by have := cast_le (show 1 ≤ b from hb); simpa using this
  have e : Rat.divInt t (b : Int) * (b : Rat) = (t : Rat) := by
    rw [Rat.divInt_eq_div]; exact Rat.div_mul_cancel bz
  have w1 : (t : Rat) ≤ (w : Rat) := by
    have : t ≤ (w : Int) := by omega
    exact Rat.intCast_le_intCast.mpr this
  have w2 : -(w : Rat) ≤ (t : Rat) := by
    have h : -(w : Int) ≤ t := by omega
    have := Rat.intCast_le_intCast.mpr h
    rw [Rat.intCast_neg] at this
    exact this
  have w0 : (0 : Rat) ≤ (w : Rat) := by have := cast_le (Nat.zero_le w); simpa using this
  have wb : (w : Rat) * 1 ≤ (w : Rat) * b := Rat.mul_le_mul_of_nonneg_left b1 w0
  generalize Rat.divInt t (b : Int) = q at *
  refine ⟨⟨t * (c : Int), ?_⟩, ?_, ?_⟩
  · have : ((b * c : Nat) : Rat) = (b : Rat) * c := by simp
    rw [this, ← Rat.mul_assoc, e]; simp [nat_int]
  · apply Rat.le_of_mul_le_mul_right (c := (b : Rat)) _ b0
    rw [e]; grind
  · apply Rat.le_of_mul_le_mul_right (c := (b : Rat)) _ b0
    rw [e]; grind
theorem divInt_nonneg {t : Int} {b : Nat} (hb : 0 < b) (ht : 0 ≤ t) : 0 ≤ Rat.divInt t (b : Int) := by
  have b0 : (0 : Rat) < (b : Rat) := by have := cast_lt hb; simpa using this
  have bz : (b : Rat) ≠ 0 := fun e => by rw [e] at b0; exact Rat.lt_irrefl b0
  have e : Rat.divInt t (b : Int) * (b : Rat) = (t : Rat) := by
    rw [Rat.divInt_eq_div]; exact Rat.div_mul_cancel bz
  have t0 : (0 : Rat) ≤ (t : Rat) := Rat.intCast_le_intCast.mpr ht
  apply Rat.le_of_mul_le_mul_right (c := (b : Rat)) _ b0
  rw [e, Rat.zero_mul]; exact t0
theorem ix_dig {ρ : Env} {ds : List DL.D} {j : Nat} {Q : QE} (hj : j < ds.length) (h : ∀ d ∈ ds, Q (.val d) ρ) : wpIx ρ (.tmp ds) (.val (.int (j : Int))) Q := by
  rw [o_ix, e_seqL]
  exact ⟨ds[j], (atI_nat ds j).trans (List.getElem?_eq_getElem hj), h _ (List.getElem_mem hj)⟩
def sp_w_number : Spec := fun ss R => ∃ (n : Int) (w : Nat), ss = [sPk n, vI w] ∧ (0 ≤ n ∧ w ≤ 1000) ∧ ∀ (q : Rat) (n' : Int), 0 ≤ n' → bd 60 w q → R (.val (nD q)) [sPk n', vI w]
def G_w_number : Gam := { fn := [("_law_low", sp_number), ("_law_take", sp_w_take)] }
theorem small_mul {i j : Int} (h1 : i.natAbs < 2 ^ 100) (h2 : j.natAbs < 2 ^ 100) : mulOk i j := ⟨100, 100, h1, h2, by decide⟩
theorem lt_9k {n : Nat} (h : n < 2 ^ 100) : n < 2 ^ 9000 := Nat.lt_of_lt_of_le h (Nat.pow_le_pow_right (by decide) (by decide))
theorem lt_100 {n : Nat} (h : n < 100000) : n < 2 ^ 100 := Nat.lt_of_lt_of_le h (by decide)
theorem b_w_number : Body G_w_number 3 2 c_w_number sp_w_number := ⟨by
  rintro _ R ⟨n, w, rfl, ⟨hn, hw⟩, hR⟩
  refine ⟨rfl, ⟨.inr rfl, by simp⟩, ?_⟩
  show wpSs _ _ [sPk n, vI w, .non] _
  obtain ⟨n1, j, e1, j1⟩ := digit hn (show (0 : Int) < 8 by decide)
  simp [c_w_number, G_w_number, hn, e1, -o_ix]
  refine ix_dig (by simp; omega) fun d hd => ?_
  have hb : ∃ b : Nat, d = .int (b : Int) ∧ 0 < b ∧ b ∣ 60 ∧ b < 100 := by
    simp only [List.mem_cons, List.not_mem_nil, or_false] at hd
    rcases hd with h | h | h | h | h | h | h | h <;> subst h
    · exact ⟨1, rfl, by decide, by decide, by decide⟩
    · exact ⟨1, rfl, by decide, by decide, by decide⟩
    · exact ⟨1, rfl, by decide, by decide, by decide⟩
    · exact ⟨2, rfl, by decide, by decide, by decide⟩
    · exact ⟨3, rfl, by decide, by decide, by decide⟩
    · exact ⟨5, rfl, by decide, by decide, by decide⟩
    · exact ⟨12, rfl, by decide, by decide, by decide⟩
    · exact ⟨1, rfl, by decide, by decide, by decide⟩
  obtain ⟨b, rfl, b0, b60, b100⟩ := hb
  obtain ⟨n2, i, e2, i1⟩ := digit n1 (show (0 : Int) < 2 * (w : Int) + 1 by omega)
  simp [G_w_number, n1]
  refine ⟨small_mul (by decide) (lt_100 (by omega)), ⟨by omega, by omega⟩, ?_⟩
  rw [e2]
  simp [show ¬ (b : Int) = 0 by omega, show ¬ b = 0 by omega]
  refine ⟨lt_9k (lt_100 (by omega)), hR _ _ n2 (bd_frac b0 b60 (by omega))⟩⟩
def sp_w_amount : Spec := fun ss R => ∃ n : Int, ss = [sPk n] ∧ 0 ≤ n ∧ ∀ (q : Rat) (n' : Int), 0 ≤ n' → bd 60 120 q → 0 ≤ q → R (.val (nD q)) [sPk n']
def G_w_amount : Gam := { fn := [("_law_low", sp_number), ("_law_take", sp_w_take)] }
theorem b_w_amount : Body G_w_amount 1 1 c_w_amount sp_w_amount := ⟨by
  rintro _ R ⟨n, rfl, hn, hR⟩
  refine ⟨rfl, ⟨.inr rfl, by simp⟩, ?_⟩
  show wpSs _ _ [sPk n] _
  obtain ⟨n1, j, e1, j1⟩ := digit hn (show (0 : Int) < 6 by decide)
  obtain ⟨n2, i, e2, i1⟩ := digit n1 (show (0 : Int) < 3 by decide)
  obtain ⟨n3, k, e3, k1⟩ := digit n2 (show (0 : Int) < 3 by decide)
  simp [c_w_amount, G_w_amount, hn, e1, -o_ix]
  refine ix_dig (by simp; omega) fun d hd => ?_
  have hb : ∃ b : Nat, d = .int (b : Int) ∧ b ≤ 40 := by
    simp only [List.mem_cons, List.not_mem_nil, or_false] at hd
    rcases hd with h | h | h | h | h | h <;> subst h
    · exact ⟨0, rfl, by decide⟩
    · exact ⟨1, rfl, by decide⟩
    · exact ⟨2, rfl, by decide⟩
    · exact ⟨5, rfl, by decide⟩
    · exact ⟨9, rfl, by decide⟩
    · exact ⟨40, rfl, by decide⟩
  obtain ⟨b, rfl, b40⟩ := hb
  simp [G_w_amount, n1, e2]
  refine ⟨small_mul (lt_100 (by omega)) (lt_100 (by omega)), n2, ?_⟩
  rw [e3]
  have hm : (b : Int) * (1 + (i : Int)) ≤ 40 * 3 := Int.mul_le_mul (by omega) (by omega) (by omega) (by omega)
  have hm0 : 0 ≤ (b : Int) * (1 + (i : Int)) := Int.mul_nonneg (by omega) (by omega)
  have ek : (1 + (k : Int)) = ((1 + k : Nat) : Int) := by omega
  rw [ek]
  refine ⟨by omega, lt_9k (lt_100 (by omega)), hR _ _ n3 (bd_frac (by omega) ?_ (by omega)) (divInt_nonneg (by omega) hm0)⟩
  have : k = 0 ∨ k = 1 ∨ k = 2 := by omega
  rcases this with h | h | h <;> subst h <;> decide⟩
end DL

/-! DN3 -/
set_option exponentiation.threshold 100
namespace DL
open PySem PySem.Spec PyProof.Rows L2 LC

/-! ## drawn rows -/
def ab (q : Rat) : Rat := if q < 0 then -q else q
theorem ab_nn (q : Rat) : 0 ≤ ab q := by unfold ab; split <;> grind
theorem nD_ab (q : Rat) : DL.D.tup [.int (q.num.natAbs : Int), .int (q.den : Int)] = nD (ab q) := by
  unfold ab
  by_cases c : q < 0
  · rw [if_pos c]
    have : q.num < 0 := by
      apply Decidable.byContradiction
      intro z
      exact absurd (Rat.num_nonneg.mp (Int.not_lt.mp z)) (Rat.not_le.mpr c)
    unfold nD
    rw [Rat.neg_num, Rat.neg_den, show (q.num.natAbs : Int) = -q.num by omega]
  · rw [if_neg c]
    have : 0 ≤ q.num := Rat.num_nonneg.mpr (Rat.not_lt.mp c)
    unfold nD
    rw [show (q.num.natAbs : Int) = q.num by omega]
theorem bd_ab {D M : Nat} {q : Rat} (h : bd D M q) : bd D M (ab q) := by
  unfold ab
  split
  · obtain ⟨⟨z, hz⟩, h1, h2⟩ := h
    exact ⟨⟨-z, by rw [Rat.neg_mul, hz, Rat.intCast_neg]⟩, by grind, by grind⟩
  · exact h
abbrev vB (b : Bool) : Sl := .fd (.val (.bl b))
theorem okD_listN (xs : List Rat) : okD (.lst (xs.map nD)) := okD_of (n := 2) (by rw [iD]; exact iDs_map _ (fun q => iD_nD q) xs) (by decide)
theorem okD_nil : okD (.lst []) := okD_of (n := 1) rfl (by decide)
theorem deq_nil (xs : List Rat) : deq (.lst (xs.map nD)) (.lst []) = xs.isEmpty := by
  have e := deq_of (n := 2) (d := .lst (xs.map nD)) (e := .lst []) (by rw [iD]; exact iDs_map _ (fun q => iD_nD q) xs) rfl
  cases xs with
  | nil => rfl
  | cons x xs =>
    cases h : deq (.lst ((x :: xs).map nD)) (.lst []) with
    | false => rfl
    | true => have := e.mp h; cases this
def sp_w_some : Spec := fun ss R => ∃ (n : Int) (k : Nat) (b : Bool), ss = [sPk n, vI k, vB b] ∧ (0 ≤ n ∧ k ≤ 100) ∧ ∀ (qs : List Rat) (n' : Int), 0 ≤ n' → qs.length = k → (∀ x ∈ qs, bd 60 9 x) → (b = true → ∀ x ∈ qs, 0 ≤ x) → R (.val (rowD qs)) [sPk n', vI k, vB b]
def G_w_some : Gam := { fn := [("_law_take", sp_w_take), ("_law_number", sp_w_number)] }
theorem b_w_some : Body G_w_some 6 3 c_w_some sp_w_some := ⟨by
  rintro _ R ⟨n, k, b, rfl, ⟨hn, hk⟩, hR⟩
  refine ⟨rfl, ⟨.inr rfl, by simp⟩, ?_⟩
  show wpSs _ _ [sPk n, vI k, vB b, .non, .non, .non] _
  simp [c_w_some, G_w_some, -o_ix]
  refine fr_rule ⟨intsL 0 k, []⟩ [sPk n, vI k, vB b, sL [], .non, .non] (fun K hK => ?_) rfl ?_
  · simp
    exact ⟨by omega, hK⟩
  refine for_map (fun j : Nat => DL.D.int (0 + (j : Int))) (List.range k) (fun i ρ => ∃ (n' : Int) (qs : List Rat) (s4 s5 : Sl), ρ = [sPk n', vI k, vB b, sL qs, s4, s5] ∧ 0 ≤ n' ∧ qs.length = i ∧ (∀ x ∈ qs, bd 60 9 x) ∧ (b = true → ∀ x ∈ qs, 0 ≤ x)) ⟨n, [], .non, .non, rfl, hn, rfl, by simp, by simp⟩ ?_ ?_
  · rintro i x ρ K hx ⟨n', qs, s4, s5, rfl, h1, h2, h3, h4⟩
    refine ⟨still_nil _, fun hK => ?_⟩
    have hi : i < k := by
      have := (List.getElem?_eq_some_iff.mp hx).1
      simpa using this
    simp [frStep_eq, G_w_some, -o_ix]
    refine ⟨n', 9, rfl, ⟨h1, by decide⟩, fun q n2 p1 p2 => ?_⟩
    simp [G_w_some, -o_ix]
    -- what the number comes to
    have next : ∀ (y : Rat) (n3 : Int), 0 ≤ n3 → bd 60 9 y → (b = true → 0 ≤ y) → K [sPk n3, vI k, vB b, .fd (.lst (qs.map nD ++ [nD y])), vI x, vN y] := fun y n3 g1 g2 g3 => by
      have e : qs.map nD ++ [nD y] = (qs ++ [y]).map nD := by rw [List.map_append]; rfl
      rw [e]
      refine hK _ ⟨n3, qs ++ [y], _, _, rfl, g1, by simp [h2], fun z hz => ?_, fun hb z hz => ?_⟩
      · rcases List.mem_append.mp hz with hz | hz
        · exact h3 z hz
        · rw [List.mem_singleton.mp hz]; exact g2
      · rcases List.mem_append.mp hz with hz | hz
        · exact h4 hb z hz
        · rw [List.mem_singleton.mp hz]; exact g3 hb
    cases b
    case' true =>
      simp [G_w_some, nD_ab, okD_listN, okD_nil, deq_nil, -o_ix]
      have g2 := bd_ab p2
      have g3 : true = true → 0 ≤ ab q := fun _ => ab_nn q
      generalize ab q = y at g2 g3 ⊢
    case' false =>
      simp [G_w_some, okD_listN, okD_nil, deq_nil, -o_ix]
      have g2 := p2
      have g3 : false = true → 0 ≤ q := fun z => by cases z
      generalize q = y at g2 g3 ⊢
    all_goals
      cases hq : qs with
      | nil =>
        have := next y n2 p1 g2 g3
        rw [hq] at this
        simpa using this
      | cons a r =>
        simp [p1, -o_ix]
        have p1' := (digit p1 (show (0 : Int) < 4 by decide)).1
        rw [hq] at h2
        simp at h2
        by_cases c : n2 % 4 = 0
        · simp [c, -o_ix]
          have ne : a :: r ≠ [] := by simp
          have hl : (a :: r)[(a :: r).length - 1]? = some (a :: r)[(a :: r).length - 1] := List.getElem?_eq_getElem (by simp)
          have hm : (a :: r)[(a :: r).length - 1] ∈ qs := by rw [hq]; exact List.getElem_mem _
          generalize (a :: r)[(a :: r).length - 1] = z at hl hm
          refine ix_map (f := nD) (xs := a :: r) (by simp) z ((atI_last _ ne).trans hl) ?_
          simp [-o_ix]
          have := next z _ p1' (h3 z hm) (fun hb => h4 hb z hm)
          rw [hq] at this
          exact ⟨by omega, by simpa using this⟩
        · simp [c, -o_ix]
          have := next y _ p1' g2 g3
          rw [hq] at this
          exact ⟨by omega, by simpa using this⟩
  · rintro ρ ⟨n', qs, s4, s5, rfl, h1, h2, h3, h4⟩
    refine ⟨still_nil _, ?_⟩
    rw [List.length_range] at h2
    simp
    exact hR qs n' h1 h2 h3 h4⟩
end DL

/-! DN4 -/
set_option exponentiation.threshold 100
namespace DL
open PySem PySem.Spec PyProof.Rows L2 LC

/-! ## two rows -/
def sp_w_two : Spec := fun ss R => ∃ (n : Int) (b : Bool), ss = [sPk n, vB b] ∧ 0 ≤ n ∧ ∀ (ps qs : List Rat) (n' : Int), 0 ≤ n' → qs.length = ps.length → 1 ≤ ps.length → ps.length ≤ 24 → (∀ x ∈ ps, bd 60 129 x) → (∀ x ∈ qs, bd 60 129 x) → (b = true → (∀ x ∈ ps, 0 ≤ x) ∧ ∀ x ∈ qs, 0 ≤ x) → R (.val (.tup [rowD ps, rowD qs])) [sPk n', vB b]
def G_w_two : Gam := { fn := [("_law_some", sp_w_some), ("_law_more", sp_added), ("_law_take", sp_w_take), ("_law_amount", sp_w_amount)] }
theorem sm60 {N : Nat} {q : Rat} (h : bd 60 N q) (hN : N ≤ 1000000) : sm q := sm_of h (by decide) (Nat.lt_of_lt_of_le (show 60 < 2 ^ 6 by decide) (Nat.pow_le_pow_right (by decide) (by decide))) (Nat.lt_of_le_of_lt (Nat.mul_le_mul_right _ hN) (Nat.lt_of_lt_of_le (show 1000000 * 60 < 2 ^ 26 by decide) (Nat.pow_le_pow_right (by decide) (by decide))))
theorem nD_zero : DL.D.tup [.int 0, .int 1] = nD 0 := rfl
theorem b_w_two : Body G_w_two 9 2 c_w_two sp_w_two := ⟨by
  rintro _ R ⟨n, b, rfl, hn, hR⟩
  refine ⟨rfl, ⟨.inr rfl, by simp⟩, ?_⟩
  show wpSs _ _ [sPk n, vB b, .non, .non, .non, .non, .non, .non, .non] _
  obtain ⟨n1, pick, e1, _⟩ := digit hn (show (0 : Int) < 4 by decide)
  obtain ⟨n2, sz, e2, hsz⟩ := digit n1 (show (0 : Int) < 9 by decide)
  have n3 := (digit n2 (show (0 : Int) < 8 by decide)).1
  simp [c_w_two, G_w_two, hn, n1, n2, e1, e2, -o_ix]
  generalize n / 4 / 9 % 8 = r at *
  generalize n / 4 / 9 / 8 = m at *
  by_cases c : r = 0
  case' pos =>
    simp [c, G_w_two, -o_ix]
    obtain ⟨k, ek, k1, k2⟩ : ∃ k : Nat, (24 : Int) = (k : Int) ∧ 1 ≤ k ∧ k ≤ 24 := ⟨24, rfl, by decide, by decide⟩
    rw [ek]
  case' neg =>
    simp [c, G_w_two, -o_ix]
    obtain ⟨k, ek, k1, k2⟩ : ∃ k : Nat, (1 + (sz : Int)) = (k : Int) ∧ 1 ≤ k ∧ k ≤ 24 := ⟨1 + sz, by omega, by omega, by omega⟩
    rw [ek]
  all_goals
    refine ⟨m, rfl, n3, fun more m1 p1 bm m0 => ?_⟩
    simp [G_w_two, p1, show (0 : Int) < (k : Int) by omega, show (k : Int) < 1073741824 by omega, show 0 < k by omega, -o_ix]
    obtain ⟨p2, at_, e3, _⟩ := digit p1 (show (0 : Int) < (k : Int) by omega)
    rw [e3]
    generalize m1 / (k : Int) = m2 at *
    refine ⟨m2, k, b, rfl, ⟨p2, by omega⟩, fun ps m3 p3 lp bp sp => ?_⟩
    simp [G_w_two, -o_ix]
    have bps : ∀ x ∈ ps, bd 60 129 x := fun x hx => bd_le (bp x hx) (by omega)
    have smM : sm more := sm60 bm (by decide)
    refine lc_all [sPk m3, vB b, vI pick, vI k, vN more, vI at_, vR ps, .non, .non] [] (fun j : Nat => DL.D.int (0 + (j : Int))) (fun j : Nat => nD (at0 ps j + if ((decide ((j : Int) = (at_ : Int))) || decide ((pick : Int) = 1)) = true then more else 0)) (List.range k) (fun K hK => ?_) (by simp; omega) (still_nil _) (fun j hj K hK => ?_) ?_
    · simp
      exact ⟨by omega, hK⟩
    · have hj' : j < ps.length := by have := List.mem_range.mp hj; omega
      simp [lcStep_eq, G_w_two, -o_ix] at hK ⊢
      refine ix_map (seq_R _ _) _ (atI_at0 hj') ?_
      have s1 : sm (at0 ps j) := sm60 (at0_mem bp _ hj') (by decide)
      by_cases c1 : (j : Int) = (at_ : Int) <;> by_cases c2 : (pick : Int) = 1
      all_goals
        simp only [c1, c2, or_true, true_or, or_false, if_true, if_false] at hK
        simp [c1, c2, -o_ix]
      · rw [o_ix, e_seqL]
        refine ⟨nD more, rfl, ?_⟩
        simp [s1, smM]
        simpa using hK
      · rw [o_ix, e_seqL]
        refine ⟨nD more, rfl, ?_⟩
        simp [s1, smM]
        simpa using hK
      · rw [o_ix, e_seqL]
        refine ⟨nD more, rfl, ?_⟩
        simp [s1, smM]
        simpa using hK
      · rw [o_ix, e_seqL]
        refine ⟨nD 0, rfl, ?_⟩
        simp [s1, sm0]
        simpa using hK
    · have el : (List.range k).map (fun j : Nat => nD (at0 ps j + if ((decide ((j : Int) = (at_ : Int))) || decide ((pick : Int) = 1)) = true then more else 0)) = ((List.range k).map fun j : Nat => at0 ps j + if ((decide ((j : Int) = (at_ : Int))) || decide ((pick : Int) = 1)) = true then more else 0).map nD := by rw [List.map_map]; rfl
      rw [el]
      have lq : ((List.range k).map fun j : Nat => at0 ps j + if ((decide ((j : Int) = (at_ : Int))) || decide ((pick : Int) = 1)) = true then more else 0).length = ps.length := by simp [lp]
      have bq : ∀ x ∈ ((List.range k).map fun j : Nat => at0 ps j + if ((decide ((j : Int) = (at_ : Int))) || decide ((pick : Int) = 1)) = true then more else 0), bd 60 129 x ∧ (b = true → 0 ≤ x) := fun x hx => by
        obtain ⟨j, hj, rfl⟩ := List.mem_map.mp hx
        have hj' : j < ps.length := by have := List.mem_range.mp hj; omega
        have b1 := at0_mem bp _ hj'
        split
        · refine ⟨bd_add b1 bm, fun hb => ?_⟩
          have := sp hb _ (List.getElem_mem hj')
          rw [← at0_lt hj'] at this
          grind
        · refine ⟨bd_add b1 (bd_zero (M := 120)), fun hb => ?_⟩
          have := sp hb _ (List.getElem_mem hj')
          rw [← at0_lt hj'] at this
          grind
      generalize ((List.range k).map fun j : Nat => at0 ps j + if ((decide ((j : Int) = (at_ : Int))) || decide ((pick : Int) = 1)) = true then more else 0) = qs at lq bq ⊢
      by_cases cp : 1 < (pick : Int)
      · simp [cp, G_w_two]
        refine ⟨m3, k, b, rfl, ⟨p3, by omega⟩, fun us m4 p4 lu bu su => ?_⟩
        simp
        exact hR ps us m4 p4 (by omega) (by omega) (by omega) bps (fun x hx => bd_le (bu x hx) (by omega)) fun hb => ⟨sp hb, su hb⟩
      · simp [cp]
        exact hR ps qs m3 p3 lq (by omega) (by omega) bps (fun x hx => (bq x hx).1) fun hb => ⟨sp hb, fun x hx => (bq x hx).2 hb⟩⟩
end DL

/-! DN5 -/
set_option exponentiation.threshold 100
namespace DL
open PySem PySem.Spec PyProof.Rows L2 LC

/-! ## what two rows differ by -/
def apartL (p q : List Rat) : List Rat := (p.zip q).map fun r => r.2 - r.1
theorem apartL_length (p q : List Rat) : (apartL p q).length = min p.length q.length := by simp [apartL]
theorem apartL_at {p q : List Rat} {k : Nat} (h1 : k < p.length) (h2 : k < q.length) : at0 (apartL p q) k = at0 q k - at0 p k := by
  rw [at0_lt (by rw [apartL_length]; omega), at0_lt h1, at0_lt h2]
  simp [apartL]
def sp_w_apart : Spec := fun ss R => ∃ p q : List Rat, (ss = [vR p, vR q] ∨ ss = [sL p, sL q]) ∧ (p.length ≤ 1000 ∧ (∀ x ∈ p, sm x) ∧ ∀ x ∈ q, sm x) ∧ R (.val (rowD (apartL p q))) ss
@[simp ↓, simp] theorem w_apart_eq (p q : List Rat) (R : Fd → List Sl → Prop) : sp_w_apart [vR p, vR q] R = ((p.length ≤ 1000 ∧ (∀ x ∈ p, sm x) ∧ ∀ x ∈ q, sm x) ∧ R (.val (rowD (apartL p q))) [vR p, vR q]) := by
  refine propext ⟨fun ⟨x, y, e, h⟩ => ?_, fun h => ⟨p, q, .inl rfl, h⟩⟩
  rcases e with e | e
  · have e2 := List.cons.inj e
    have h1 := vR_inj p x e2.1
    have h2 := vR_inj q y (List.cons.inj e2.2).1
    subst h1 h2
    exact h
  · cases e
def G_w_apart : Gam := { fn := [("_law_less_by", sp_taken)] }
theorem b_w_apart : Body G_w_apart 4 2 c_w_apart sp_w_apart := ⟨by
  rintro ss R ⟨p, q, e, ⟨hl, hp, hq⟩, hR⟩
  have turn : ∀ r ∈ p.zip q, sm r.1 ∧ sm r.2 := fun r hr => by
    obtain ⟨a, b⟩ := r
    exact ⟨hp a (List.of_mem_zip hr).1, hq b (List.of_mem_zip hr).2⟩
  have el : (p.zip q).map (fun r => nD (r.2 - r.1)) = (apartL p q).map nD := by unfold apartL; rw [List.map_map]; rfl
  rcases e with rfl | rfl
  · refine ⟨rfl, by simp, ?_⟩
    show wpSs _ _ [vR p, vR q, .non, .non] _
    simp [c_w_apart, G_w_apart, -o_ix]
    refine lc_all [vR p, vR q, .non, .non] [] (fun r : Rat × Rat => .tup [nD r.1, nD r.2]) (fun r => nD (r.2 - r.1)) (p.zip q) (fun K hK => ?_) (by simp; omega) (still_nil _) (fun r hr K hK => ?_) ?_
    · rw [← pairs_map] at hK; exact hK
    · obtain ⟨s1, s2⟩ := turn r hr
      simp [lcStep_eq, s1, s2] at hK ⊢
      exact hK
    · rw [el]
      simp
      exact hR
  · refine ⟨rfl, ⟨.inr rfl, .inr rfl, by simp⟩, ?_⟩
    show wpSs _ _ [sL p, sL q, .non, .non] _
    simp [c_w_apart, G_w_apart, -o_ix]
    refine lc_all [sL p, sL q, .non, .non] [(.slot 0, p.map nD), (.slot 1, q.map nD)] (fun r : Rat × Rat => .tup [nD r.1, nD r.2]) (fun r => nD (r.2 - r.1)) (p.zip q) (fun K hK => ?_) (by simp; omega) ?_ (fun r hr K hK => ?_) ?_
    · rw [← pairs_map] at hK; exact hK
    · intro z hz
      simp at hz
      rcases hz with rfl | rfl <;> rfl
    · obtain ⟨s1, s2⟩ := turn r hr
      simp [lcStep_eq, s1, s2] at hK ⊢
      exact hK
    · rw [el]
      simp
      exact hR⟩
/-! ## falling -/
theorem fall_filter {x : Rat} : ∀ {xs : List Rat}, Falling xs → ∀ ys zs, xs = ys ++ zs → ys.length = (xs.filter fun y => !decide (y < x)).length → (∀ y ∈ ys, x ≤ y) ∧ ∀ z ∈ zs, z < x
  | [], _, ys, zs, e, _ => by
    have : ys = [] ∧ zs = [] := by simpa using e.symm
    rw [this.1, this.2]; simp
  | a :: xs, f, ys, zs, e, hl => by
    have f' := List.pairwise_cons.mp f
    by_cases c : a < x
    · have none_ : ∀ y ∈ xs, y < x := fun y hy => by have := f'.1 y hy; grind
      have z : (List.filter (fun y => !decide (y < x)) (a :: xs)).length = 0 := by
        rw [List.length_eq_zero_iff, List.filter_eq_nil_iff]
        intro y hy
        rcases List.mem_cons.mp hy with rfl | hy
        · simp [c]
        · simp [none_ y hy]
      rw [z] at hl
      have : ys = [] := List.length_eq_zero_iff.mp hl
      subst this
      rw [List.nil_append] at e
      subst e
      exact ⟨by simp, fun y hy => by
        rcases List.mem_cons.mp hy with rfl | hy
        · exact c
        · exact none_ y hy⟩
    · have z : (List.filter (fun y => !decide (y < x)) (a :: xs)).length = (List.filter (fun y => !decide (y < x)) xs).length + 1 := by
        rw [List.filter_cons_of_pos (by simp [c])]; rfl
      rw [z] at hl
      cases ys with
      | nil => simp at hl
      | cons b ys =>
        simp at e hl
        obtain ⟨rfl, e⟩ := e
        obtain ⟨h1, h2⟩ := fall_filter (x := x) f'.2 ys zs e hl
        exact ⟨fun y hy => by
          rcases List.mem_cons.mp hy with rfl | hy
          · exact Rat.not_lt.mp c
          · exact h1 y hy, h2⟩
theorem fall_put {x : Rat} {xs : List Rat} (f : Falling xs) : Falling (xs.take (xs.filter fun y => !decide (y < x)).length ++ x :: xs.drop (xs.filter fun y => !decide (y < x)).length) := by
  have le : (xs.filter fun y => !decide (y < x)).length ≤ xs.length := List.length_filter_le ..
  obtain ⟨h1, h2⟩ := fall_filter (x := x) f _ _ (List.take_append_drop (xs.filter fun y => !decide (y < x)).length xs).symm (by rw [List.length_take]; omega)
  have sp := f
  unfold Falling at sp ⊢
  rw [← List.take_append_drop (xs.filter fun y => !decide (y < x)).length xs, List.pairwise_append] at sp
  obtain ⟨f1, f2, f3⟩ := sp
  rw [List.pairwise_append]
  refine ⟨f1, List.pairwise_cons.mpr ⟨fun y hy => Rat.le_of_lt (h2 y hy), f2⟩, fun y hy z hz => ?_⟩
  rcases List.mem_cons.mp hz with rfl | hz
  · exact h1 y hy
  · exact f3 y hy z hz
def sp_w_falling : Spec := fun ss R => ∃ q : List Rat, ss = [vR q] ∧ (q.length ≤ 1000 ∧ ∀ x ∈ q, sm x) ∧ ∀ P : List Rat, P.Perm q → Falling P → R (.lst (P.map nD)) ss
def G_w_falling : Gam := { fn := [("_law_under", sp_is_less)] }
theorem b_w_falling : Body G_w_falling 5 1 c_w_falling sp_w_falling := ⟨by
  rintro _ R ⟨q, rfl, ⟨hl, hs⟩, hR⟩
  refine ⟨rfl, by simp, ?_⟩
  show wpSs _ _ [vR q, .non, .non, .non, .non] _
  simp [c_w_falling, G_w_falling, -o_ix]
  refine fr_rule ⟨q.map nD, []⟩ [vR q, sL [], .non, .non, .non] (fun K hK => hK) rfl ?_
  refine for_map nD q (fun i ρ => ∃ P s2 s3 s4, ρ = [vR q, sL P, s2, s3, s4] ∧ P.Perm (q.take i) ∧ Falling P) ⟨[], .non, .non, .non, rfl, by simp, List.Pairwise.nil⟩ ?_ ?_
  · rintro i x ρ K hx ⟨P, s2, s3, s4, rfl, hp, hf⟩
    refine ⟨still_nil _, fun hK => ?_⟩
    have hi := (List.getElem?_eq_some_iff.mp hx).1
    have lP : P.length ≤ 1000 := by rw [hp.length_eq, List.length_take]; omega
    have sP' : ∀ y ∈ P, sm y := fun y hy => hs y (List.mem_of_mem_take ((hp.mem_iff).mp hy))
    have sx := hs x (List.mem_of_getElem? hx)
    simp [frStep_eq, G_w_falling, -o_ix]
    refine lc_rule ⟨P.map nD, [(.slot 1, P.map nD)]⟩ (ρ1 := [vR q, sL P, vN x, s3, s4]) (fun K' hK' => hK') (by simp; omega) ?_
    refine lc_filter nD nD (fun y => !decide (y < x)) ?_ P [] _ (fun y hy K' hK' => ?_) ?_
    · intro z hz
      simp at hz
      subst hz; rfl
    · have sy := sP' y hy
      by_cases c : y < x <;> simp [lcStep_eq, c, sy, sx] at hK' ⊢ <;> exact hK'
    · have le : (P.filter fun y => !decide (y < x)).length ≤ P.length := List.length_filter_le ..
      simp [-List.map_take, -List.map_drop]
      refine ⟨⟨by simpa using le, by omega⟩, ?_⟩
      have e3 : (P.take (P.filter fun y => !decide (y < x)).length ++ x :: P.drop (P.filter fun y => !decide (y < x)).length).map nD = List.take (P.filter fun y => !decide (y < x)).length (P.map nD) ++ nD x :: List.drop (P.filter fun y => !decide (y < x)).length (P.map nD) := by
        rw [List.map_append, List.map_cons, List.map_take, List.map_drop]
      rw [← e3]
      refine hK _ ⟨_, _, _, _, rfl, ?_, fall_put hf⟩
      rw [List.take_succ, hx]
      have h1 : (P.take (P.filter fun y => !decide (y < x)).length ++ x :: P.drop (P.filter fun y => !decide (y < x)).length).Perm (x :: P) := by
        have := List.perm_middle (a := x) (l₁ := P.take (P.filter fun y => !decide (y < x)).length) (l₂ := P.drop (P.filter fun y => !decide (y < x)).length)
        rwa [List.take_append_drop] at this
      exact (h1.trans (hp.cons x)).trans (List.perm_append_comm (l₁ := [x]))
  · rintro ρ ⟨P, s2, s3, s4, rfl, hp, hf⟩
    refine ⟨still_nil _, ?_⟩
    rw [List.take_length] at hp
    simp
    exact hR P hp hf⟩
end DL

/-! DN6 -/
set_option exponentiation.threshold 100
namespace DL
open PySem PySem.Spec PyProof.Rows L2 LC

/-! ## led -/
theorem bd_take {D M : Nat} {xs : List Rat} (h : ∀ x ∈ xs, bd D M x) (hl : xs.length ≤ 24) (k : Nat) : bd D (24 * M) (sumL (xs.take k)) := by
  have := bd_sum (xs := xs.take k) fun x hx => h x (List.mem_of_mem_take hx)
  refine bd_le this (Nat.mul_le_mul_right _ ?_)
  rw [List.length_take]; omega
theorem sumL_take {xs : List Rat} {i : Nat} {x : Rat} (h : xs[i]? = some x) : sumL (xs.take (i + 1)) = sumL (xs.take i) + x := by
  rw [List.take_succ, h, sumL_append]
  simp only [Option.toList, sumL]; grind
def sp_w_led : Spec := fun ss R => ∃ (D M : Nat) (a g : List Rat), ss = [vR a, vR g] ∧ (SzOk D (24 * M) ∧ a.length = g.length ∧ a.length ≤ 24 ∧ (∀ x ∈ a, bd D M x) ∧ (∀ x ∈ g, bd D M x) ∧ Led a g) ∧ R (.val (.bl true)) ss
def G_w_led : Gam := { fn := [("_law_under", sp_is_less), ("_law_more", sp_added), ("_law_falling", sp_w_falling)] }
theorem b_w_led : Body G_w_led 7 2 c_w_led sp_w_led := ⟨by
  rintro _ R ⟨D, M, a, g, rfl, ⟨Z, hl, hn, ha, hg, L⟩, hR⟩
  refine ⟨rfl, by simp, ?_⟩
  show wpSs _ _ [vR a, vR g, .non, .non, .non, .non, .non] _
  have sA : ∀ {x : Rat}, bd D M x → sm x := fun h => Z.sm h (by omega)
  simp [c_w_led, G_w_led, -o_ix]
  refine ⟨a, rfl, ⟨by omega, fun x hx => sA (ha x hx)⟩, fun P pP fP => ?_⟩
  simp [G_w_led, -o_ix]
  refine ⟨g, rfl, ⟨by omega, fun x hx => sA (hg x hx)⟩, fun Q pQ fQ => ?_⟩
  have lP := pP.length_eq
  have lQ := pQ.length_eq
  have bP : ∀ x ∈ P, bd D M x := fun x hx => ha x ((pP.mem_iff).mp hx)
  have bQ : ∀ x ∈ Q, bd D M x := fun x hx => hg x ((pQ.mem_iff).mp hx)
  have ll : Leads P Q := leads_of fP (by omega) (fun t => by rw [hinges_perm pQ, hinges_perm pP]; exact L.1 t) (by rw [sumL_perm pQ, sumL_perm pP]; exact L.2)
  have hs : sumL P = sumL Q := by rw [sumL_perm pQ, sumL_perm pP]; exact L.2.symm
  simp [G_w_led, -o_ix]
  refine ⟨by omega, ?_⟩
  rw [pairs_map]
  refine fr_rule ⟨(P.zip Q).map pairD, [(.slot 4, (P.zip Q).map pairD)]⟩ [vR a, vR g, vN 0, vN 0, sP (P.zip Q), .non, .non] (fun K hK => hK) rfl ?_
  refine for_map pairD (P.zip Q) (fun i ρ => ∃ s5 s6, ρ = [vR a, vR g, vN (sumL (P.take i)), vN (sumL (Q.take i)), sP (P.zip Q), s5, s6]) ⟨.non, .non, rfl⟩ ?_ ?_
  · rintro i ⟨x, y⟩ ρ K hx ⟨s5, s6, rfl⟩
    refine ⟨fun z hz => ?_, fun hK => ?_⟩
    · simp at hz
      subst hz; rfl
    rw [List.getElem?_zip_eq_some] at hx
    obtain ⟨hx, hy⟩ := hx
    have tx := sumL_take hx
    have ty := sumL_take hy
    have lead := ll (i + 1)
    have b1 := bd_take bP (by omega) i
    have b2 := bd_take bQ (by omega) i
    have b3 := bd_take bP (by omega) (i + 1)
    have b4 := bd_take bQ (by omega) (i + 1)
    have sx := sA (bP x (List.mem_of_getElem? hx))
    have sy := sA (bQ y (List.mem_of_getElem? hy))
    have c : ¬ sumL (P.take (i + 1)) < sumL (Q.take (i + 1)) := Rat.not_lt.mpr lead
    have e : pairD (x, y) = .tup [nD x, nD y] := rfl
    have t1 : sm (sumL (P.take i)) := Z.sm b1 (by omega)
    have t2 : sm (sumL (Q.take i)) := Z.sm b2 (by omega)
    have t3 : sm (sumL (P.take (i + 1))) := Z.sm b3 (by omega)
    have t4 : sm (sumL (Q.take (i + 1))) := Z.sm b4 (by omega)
    simp [frStep_eq, e, G_w_led, t1, t2, sx, sy, -o_ix]
    rw [← tx, ← ty]
    simp [G_w_led, t3, t4, c]
    exact hK _ ⟨_, _, rfl⟩
  · rintro ρ ⟨s5, s6, rfl⟩
    refine ⟨fun z hz => ?_, ?_⟩
    · simp at hz
      subst hz; rfl
    have lz : (P.zip Q).length = P.length := by simp; omega
    rw [lz, List.take_length, List.take_of_length_le (by omega)]
    simp [hs]
    exact hR⟩
/-! ## levelled right -/
def sp_w_right : Spec := fun ss R => ∃ (D M : Nat) (a g : List Rat), ss = [vR a, vR g] ∧ (SzOk D (24 * M) ∧ a.length = g.length ∧ 1 ≤ a.length ∧ a.length ≤ 24 ∧ (∀ x ∈ a, bd D M x) ∧ (∀ x ∈ g, bd D M x) ∧ Led a g) ∧ R (.val (.bl true)) ss
def G_w_levelled_right : Gam := { fn := [("levelled", sp_levelled), ("between", sp_between), ("_law_led", sp_w_led)] }
theorem SzOk.le {D M N : Nat} (z : SzOk D M) (h : N ≤ M) : SzOk D N := ⟨z.d0, z.dd, Nat.lt_of_le_of_lt (Nat.mul_le_mul_right _ (Nat.mul_le_mul_left _ h)) z.mm⟩
theorem b_w_levelled_right : Body G_w_levelled_right 3 2 c_w_levelled_right sp_w_right := ⟨by
  rintro _ R ⟨D, M, a, g, rfl, ⟨Z, hl, h1, hn, ha, hg, L⟩, hR⟩
  refine ⟨rfl, by simp, ?_⟩
  show wpSs _ _ [vR a, vR g, .non] _
  have Z' : SzOk D M := Z.le (by omega)
  simp [c_w_levelled_right, G_w_levelled_right, hl]
  refine ⟨D, M, a, g, rfl, ⟨Z, hl, hn, ha, hg, L⟩, ?_⟩
  simp [G_w_levelled_right]
  refine ⟨D, M, a, g, rfl, ⟨Z', hl, h1, hn, ha, hg⟩, fun o ho hled => ?_⟩
  have hs := hled L
  cases o with
  | none => cases hs
  | some ls =>
    obtain ⟨P, le⟩ := ho ls rfl
    simp [optL, G_w_levelled_right]
    refine ⟨D, M, a, g, ls, rfl, ⟨Z', h1, hn, by omega, P⟩, ?_⟩
    simp
    exact hR⟩
end DL

/-! DN7 -/
set_option exponentiation.threshold 100
namespace DL
open PySem PySem.Spec PyProof.Rows L2 LC

/-! ## drawn jobs -/
abbrev J4 := Nat × Nat × Rat × Rat
def kAr (j : J4) : Nat := j.1
def kDu (j : J4) : Nat := j.2.1
def kW1 (j : J4) : Rat := j.2.2.1
def kW2 (j : J4) : Rat := j.2.2.2
def j4D (j : J4) : DL.D := .tup [.int (kAr j : Int), .int (kDu j : Int), nD (kW1 j), nD (kW2 j)]
abbrev sJ4 (js : List J4) : Sl := .fd (.lst (js.map j4D))
structure J4Ok (js : List J4) (a d : Nat) : Prop where
  ok : ∀ j ∈ js, kAr j < kDu j ∧ kDu j ≤ 24 ∧ kAr j ≤ a ∧ kDu j ≤ d
  w1 : ∀ j ∈ js, 0 < kW1 j ∧ bd 60 12 (kW1 j)
  w2 : ∀ j ∈ js, 0 < kW2 j ∧ bd 60 12 (kW2 j)
  ff : Fifo kAr kDu js
theorem J4Ok.snoc {js : List J4} {a d a' d' : Nat} {u v : Rat} (J : J4Ok js a d) (h1 : a ≤ a') (h2 : d ≤ d') (h3 : a' < d') (h4 : d' ≤ 24) (hu : 0 < u ∧ bd 60 12 u) (hv : 0 < v ∧ bd 60 12 v) : J4Ok (js ++ [(a', d', u, v)]) a' d' := by
  have last : ∀ j ∈ js ++ [(a', d', u, v)], j ∈ js ∨ j = (a', d', u, v) := fun j hj => (List.mem_append.mp hj).imp id List.mem_singleton.mp
  refine ⟨fun j hj => ?_, fun j hj => ?_, fun j hj => ?_, ?_⟩
  · rcases last j hj with h | rfl
    · have := J.ok j h; omega
    · exact ⟨h3, h4, Nat.le_refl _, Nat.le_refl _⟩
  · rcases last j hj with h | rfl
    · exact J.w1 j h
    · exact hu
  · rcases last j hj with h | rfl
    · exact J.w2 j h
    · exact hv
  · refine List.pairwise_append.mpr ⟨J.ff, List.pairwise_singleton _ _, fun i hi j hj => ?_⟩
    rw [List.mem_singleton.mp hj]
    have := J.ok i hi
    exact ⟨Nat.le_trans this.2.2.1 h1, Nat.le_trans this.2.2.2 h2⟩
def sp_w_jobs : Spec := fun ss R => ∃ (n : Int) (k : Nat), ss = [sPk n, vI k] ∧ (0 ≤ n ∧ 1 ≤ k ∧ k ≤ 12) ∧ ∀ (js : List J4) (n' : Int) (a d : Nat), 0 ≤ n' → 1 ≤ js.length → js.length ≤ k → J4Ok js a d → R (.lst (js.map j4D)) [sPk n', vI k]
def G_w_jobs : Gam := { fn := [("_law_take", sp_w_take), ("_law_low", sp_number)] }
theorem divInt_pos {t : Int} {b : Nat} (hb : 0 < b) (ht : 0 < t) : 0 < Rat.divInt t (b : Int) := by
  have b0 : (0 : Rat) < (b : Rat) := by have := cast_lt hb; simpa using this
  have bz : (b : Rat) ≠ 0 := fun e => by rw [e] at b0; exact Rat.lt_irrefl b0
  have e : Rat.divInt t (b : Int) * (b : Rat) = (t : Rat) := by
    rw [Rat.divInt_eq_div]; exact Rat.div_mul_cancel bz
  have t0 : (0 : Rat) < (t : Rat) := Rat.intCast_lt_intCast.mpr ht
  generalize Rat.divInt t (b : Int) = q at *
  apply Decidable.byContradiction
  intro c
  have := Rat.mul_le_mul_of_nonneg_right (Rat.not_lt.mp c) (Rat.le_of_lt b0)
  rw [Rat.zero_mul] at this
  grind
/-- a drawn work -/
def cJ : E := .call 1 (.cons (.bin .add (.cst (.int 1)) (.call 0 (.cons (.var 0) (.cons (.cst (.int 12)) .nil)))) (.cons (.ix (.lst (.cons (.cst (.int 1)) (.cons (.cst (.int 1)) (.cons (.cst (.int 2)) (.cons (.cst (.int 3)) .nil))))) (.call 0 (.cons (.var 0) (.cons (.cst (.int 4)) .nil)))) .nil))
theorem work_law {m : Int} {s1 s2 s3 s4 s5 s6 s7 : Sl} {Q : QE} (hm : 0 ≤ m) (hQ : ∀ (q : Rat) (n' : Int), 0 ≤ n' → 0 < q → bd 60 12 q → Q (.val (nD q)) [sPk n', s1, s2, s3, s4, s5, s6, s7]) : wpE G_w_jobs cJ [sPk m, s1, s2, s3, s4, s5, s6, s7] Q := by
  obtain ⟨n1, j, e1, j1⟩ := digit hm (show (0 : Int) < 12 by decide)
  obtain ⟨n2, i, e2, i1⟩ := digit n1 (show (0 : Int) < 4 by decide)
  simp [cJ, G_w_jobs, hm, n1, e1, e2, -o_ix]
  refine ix_dig (by simp; omega) fun d hd => ?_
  have hb : ∃ b : Nat, d = .int (b : Int) ∧ 0 < b ∧ b ∣ 60 ∧ b < 100 := by
    simp only [List.mem_cons, List.not_mem_nil, or_false] at hd
    rcases hd with h | h | h | h <;> subst h
    · exact ⟨1, rfl, by decide, by decide, by decide⟩
    · exact ⟨1, rfl, by decide, by decide, by decide⟩
    · exact ⟨2, rfl, by decide, by decide, by decide⟩
    · exact ⟨3, rfl, by decide, by decide, by decide⟩
  obtain ⟨b, rfl, b0, b60, b100⟩ := hb
  simp [show ¬ b = 0 by omega]
  rw [← Rat.divInt_ofNat]
  exact ⟨lt_9k (lt_100 (by omega)), hQ _ _ n2 (divInt_pos b0 (by omega)) (bd_frac b0 b60 (by omega))⟩
theorem b_w_jobs : Body G_w_jobs 8 2 c_w_jobs sp_w_jobs := ⟨by
  rintro _ R ⟨n, k, rfl, ⟨hn, k1, k2⟩, hR⟩
  refine ⟨rfl, ⟨.inr rfl, by simp⟩, ?_⟩
  show wpSs _ _ [sPk n, vI k, .non, .non, .non, .non, .non, .non] _
  obtain ⟨n1, a0, e1, ha0⟩ := digit hn (show (0 : Int) < 3 by decide)
  obtain ⟨n2, m, e2, hm⟩ := digit n1 (show (0 : Int) < (k : Int) by omega)
  simp [c_w_jobs, G_w_jobs, hn, e1, -o_ix]
  refine fr_rule ⟨intsL 0 (1 + m), []⟩ [sPk (n / 3 / (k : Int)), vI k, sJ4 [], vI a0, vI a0, .non, .non, .non] (fun K hK => ?_) rfl ?_
  · simp [n1, e2]
    refine ⟨⟨by omega, by omega⟩, by omega, ?_⟩
    rw [show (1 + (m : Int)).toNat = 1 + m by omega]
    exact hK
  generalize n / 3 / (k : Int) = n3 at *
  refine for_map (fun j : Nat => DL.D.int (0 + (j : Int))) (List.range (1 + m)) (fun i ρ => ∃ (n' : Int) (js : List J4) (a d : Nat) (s5 s6 : Sl), ρ = [sPk n', vI k, sJ4 js, vI a, vI d, s5, s6, .non] ∧ 0 ≤ n' ∧ js.length = i ∧ a ≤ 23 ∧ d ≤ 24 ∧ J4Ok js a d) ⟨n3, [], a0, a0, .non, .non, rfl, n2, rfl, by omega, by omega, ⟨by simp, by simp, by simp, List.Pairwise.nil⟩⟩ ?_ ?_
  · rintro i x ρ K hx ⟨n', js, a, d, s5, s6, rfl, h1, h2, h3, h4, J⟩
    refine ⟨still_nil _, fun hK => ?_⟩
    have hi : i < 1 + m := by
      have := (List.getElem?_eq_some_iff.mp hx).1
      simpa using this
    obtain ⟨q1, x1, f1, g1⟩ := digit h1 (show (0 : Int) < 4 by decide)
    obtain ⟨q2, x2, f2, g2⟩ := digit q1 (show (0 : Int) < 5 by decide)
    simp [frStep_eq, G_w_jobs, h1, q1, f1, f2, show divOk 2 from ⟨by decide, 9000, lt_9k (by decide), Nat.le_refl _, by decide⟩, -o_ix]
    generalize n' / 4 / 5 = m1 at *
    obtain ⟨a', ea, ha1, ha2⟩ : ∃ a' : Nat, min 23 ((a : Int) + (x1 : Int)) = (a' : Int) ∧ a ≤ a' ∧ a' ≤ 23 := ⟨min 23 (a + x1), by omega, by omega, by omega⟩
    have hfd : ((x2 : Int)).fdiv 2 = ((x2 / 2 : Nat) : Int) := by rw [Int.fdiv_eq_ediv_of_nonneg _ (by decide)]; rfl
    obtain ⟨d', ed, hd1, hd2, hd3⟩ : ∃ d' : Nat, min 24 (max (d : Int) ((a' : Int) + 1) + ((x2 / 2 : Nat) : Int)) = (d' : Int) ∧ d ≤ d' ∧ a' < d' ∧ d' ≤ 24 := ⟨min 24 (max d (a' + 1) + x2 / 2), by omega, by omega, by omega, by omega⟩
    rw [ea, hfd, ed]
    show wpE G_w_jobs (.lc (.nm 7) (.r1 (.cst (.int 2))) .no cJ [7]) _ _
    refine lc_rule ⟨[.int 0, .int 1], []⟩ (ρ1 := [sPk m1, vI k, sJ4 js, vI a', vI d', vI x, s6, .non]) (fun K hK => by simp; exact hK) (by decide) ?_
    refine ⟨still_nil _, ?_⟩
    simp [lcStep_eq, -o_ix]
    refine work_law q2 fun u m2 p1 u1 u2 => ?_
    simp [-o_ix]
    refine ⟨still_nil _, ?_⟩
    simp [lcStep_eq, -o_ix]
    refine work_law p1 fun v m3 p2 v1 v2 => ?_
    simp [-o_ix]
    refine ⟨still_nil _, ?_⟩
    have p3 := (digit p2 (show (0 : Int) < 3 by decide)).1
    simp [G_w_jobs, p2, -o_ix]
    have app : ∀ w : Rat, js.map j4D ++ [DL.D.tup [.int (a' : Int), .int (d' : Int), nD u, nD w]] = (js ++ [(a', d', u, w)]).map j4D := fun w => by rw [List.map_append]; rfl
    have fin : ∀ (w : Rat) (s6 : Sl), 0 < w → bd 60 12 w → K [sPk (m3 / 3), vI k, .fd (.lst (js.map j4D ++ [DL.D.tup [.int (a' : Int), .int (d' : Int), nD u, nD w]])), vI a', vI d', vI x, s6, .non] := fun w s6 w1 w2 => by
      rw [app]
      exact hK _ ⟨_, _, a', d', _, _, rfl, p3, by simp [h2], ha2, hd3, J.snoc ha1 hd1 hd2 hd3 ⟨u1, u2⟩ ⟨w1, w2⟩⟩
    by_cases c : m3 % 3 = 0
    · simp [c]
      exact ⟨by omega, fin u _ u1 u2⟩
    · simp [c]
      exact ⟨by omega, fin v _ v1 v2⟩
  · rintro ρ ⟨n', js, a, d, s5, s6, rfl, h1, h2, h3, h4, J⟩
    refine ⟨still_nil _, ?_⟩
    rw [List.length_range] at h2
    simp
    exact hR js n' a d h1 (by omega) (by omega) J⟩
end DL

/-! DN8 -/
set_option exponentiation.threshold 100
namespace DL
open PySem PySem.Spec PyProof.Rows L2 LC

/-! ## together, unlike -/
def sp_w_together : Spec := fun ss R => ∃ (D M : Nat) (q : List Rat), (ss = [vR q] ∨ ss = [sL q]) ∧ (SzOk D (24 * M) ∧ q.length ≤ 24 ∧ ∀ x ∈ q, bd D M x) ∧ R (.val (nD (sumL q))) ss
def G_w_together : Gam := { fn := [("_law_more", sp_added)] }
theorem b_w_together : Body G_w_together 3 1 c_w_together sp_w_together := ⟨by
  rintro ss R ⟨D, M, q, e, ⟨Z, hl, hq⟩, hR⟩
  have turn : ∀ (i : Nat) (x : Rat), q[i]? = some x → sm (sumL (q.take i)) ∧ sm x ∧ sumL (q.take (i + 1)) = sumL (q.take i) + x := fun i x hx => ⟨Z.sm (bd_take hq hl i) (by omega), Z.sm (hq x (List.mem_of_getElem? hx)) (by omega), sumL_take hx⟩
  rcases e with rfl | rfl
  · refine ⟨rfl, by simp, ?_⟩
    show wpSs _ _ [vR q, .non, .non] _
    simp [c_w_together, G_w_together, -o_ix]
    refine fr_rule ⟨q.map nD, []⟩ [vR q, vN 0, .non] (fun K hK => hK) rfl ?_
    refine for_map nD q (fun i ρ => ∃ s2, ρ = [vR q, vN (sumL (q.take i)), s2]) ⟨.non, rfl⟩ ?_ ?_
    · rintro i x ρ K hx ⟨s2, rfl⟩
      refine ⟨still_nil _, fun hK => ?_⟩
      obtain ⟨t1, t2, t3⟩ := turn i x hx
      simp [frStep_eq, G_w_together, t1, t2]
      rw [← t3]
      exact hK _ ⟨_, rfl⟩
    · rintro ρ ⟨s2, rfl⟩
      refine ⟨still_nil _, ?_⟩
      rw [List.take_length]
      simp
      exact hR
  · refine ⟨rfl, ⟨.inr rfl, by simp⟩, ?_⟩
    show wpSs _ _ [sL q, .non, .non] _
    simp [c_w_together, G_w_together, -o_ix]
    refine fr_rule ⟨q.map nD, [(.slot 0, q.map nD)]⟩ [sL q, vN 0, .non] (fun K hK => hK) rfl ?_
    refine for_map nD q (fun i ρ => ∃ s2, ρ = [sL q, vN (sumL (q.take i)), s2]) ⟨.non, rfl⟩ ?_ ?_
    · rintro i x ρ K hx ⟨s2, rfl⟩
      refine ⟨fun z hz => by simp at hz; subst hz; rfl, fun hK => ?_⟩
      obtain ⟨t1, t2, t3⟩ := turn i x hx
      simp [frStep_eq, G_w_together, t1, t2]
      rw [← t3]
      exact hK _ ⟨_, rfl⟩
    · rintro ρ ⟨s2, rfl⟩
      refine ⟨fun z hz => by simp at hz; subst hz; rfl, ?_⟩
      rw [List.take_length]
      simp
      exact hR⟩
def sp_w_unlike : Spec := fun ss R => ∃ (D M : Nat) (p q : List Rat), (ss = [vR p, vR q] ∨ ss = [sL p, sL q]) ∧ (SzOk D (24 * (M + M)) ∧ p.length ≤ 24 ∧ (∀ x ∈ p, bd D M x) ∧ ∀ x ∈ q, bd D M x) ∧ R (.val (nD (sumL ((apartL p q).map ab)))) ss
def G_w_unlike : Gam := { fn := [("_law_together", sp_w_together), ("_law_apart", sp_w_apart)] }
theorem bd_apart {D M N : Nat} {p q : List Rat} (h1 : ∀ x ∈ p, bd D M x) (h2 : ∀ x ∈ q, bd D N x) : ∀ x ∈ apartL p q, bd D (N + M) x := fun x hx => by
  unfold apartL at hx
  obtain ⟨⟨a, b⟩, hr, rfl⟩ := List.mem_map.mp hx
  exact bd_sub (h2 _ (List.of_mem_zip hr).2) (h1 _ (List.of_mem_zip hr).1)
theorem b_w_unlike : Body G_w_unlike 3 2 c_w_unlike sp_w_unlike := ⟨by
  rintro ss R ⟨D, M, p, q, e, ⟨Z, hl, hp, hq⟩, hR⟩
  have s1 : ∀ x ∈ p, sm x := fun x hx => Z.sm (hp x hx) (by omega)
  have s2 : ∀ x ∈ q, sm x := fun x hx => Z.sm (hq x hx) (by omega)
  have bz : ∀ x ∈ (apartL p q).map ab, bd D (M + M) x := fun x hx => by
    obtain ⟨y, hy, rfl⟩ := List.mem_map.mp hx
    exact bd_ab (bd_apart hp hq y hy)
  have lz : (apartL p q).length ≤ 24 := by rw [apartL_length]; omega
  have el : (apartL p q).map (fun x => nD (ab x)) = ((apartL p q).map ab).map nD := by rw [List.map_map]; rfl
  rcases e with rfl | rfl
  · refine ⟨rfl, by simp, ?_⟩
    show wpSs _ _ [vR p, vR q, .non] _
    simp [c_w_unlike, G_w_unlike, -o_ix]
    refine lc_rule ⟨(apartL p q).map nD, []⟩ (ρ1 := [vR p, vR q, .non]) (fun K hK => ?_) (by simp; omega) ?_
    · simp
      exact ⟨⟨by omega, s1, s2⟩, hK⟩
    refine lc_map nD (fun x => nD (ab x)) (still_nil _) (apartL p q) [] _ (fun x hx K hK => ?_) ?_
    · simp [lcStep_eq, nD_ab] at hK ⊢
      exact hK
    rw [List.nil_append, el]
    simp [G_w_unlike, -List.map_map]
    refine ⟨D, M + M, (apartL p q).map ab, .inr rfl, ⟨Z, by rw [List.length_map]; exact lz, bz⟩, ?_⟩
    simp [-List.map_map]
    exact hR
  · refine ⟨rfl, ⟨.inr rfl, .inr rfl, by simp⟩, ?_⟩
    show wpSs _ _ [sL p, sL q, .non] _
    simp [c_w_unlike, G_w_unlike, -o_ix]
    refine lc_rule ⟨(apartL p q).map nD, []⟩ (ρ1 := [sL p, sL q, .non]) (fun K hK => ?_) (by simp; omega) ?_
    · simp
      exact ⟨p, q, .inr rfl, ⟨by omega, s1, s2⟩, by simp; exact hK⟩
    refine lc_map nD (fun x => nD (ab x)) (still_nil _) (apartL p q) [] _ (fun x hx K hK => ?_) ?_
    · simp [lcStep_eq, nD_ab] at hK ⊢
      exact hK
    rw [List.nil_append, el]
    simp [G_w_unlike, -List.map_map]
    refine ⟨D, M + M, (apartL p q).map ab, .inr rfl, ⟨Z, by rw [List.length_map]; exact lz, bz⟩, ?_⟩
    simp [-List.map_map]
    exact hR⟩
end DL

/-! DN9 -/
set_option exponentiation.threshold 100
namespace DL
open PySem PySem.Spec PyProof.Rows L2 LC

/-! ## greater works -/
def mx (j : J4) : Rat := if kW1 j < kW2 j then kW2 j else kW1 j
def jb (w : J4 → Rat) (j : J4) : Job := (kAr j, kDu j, w j)
abbrev sJb (js : List Job) : Sl := .fd (.lst (js.map jobD))
theorem jb_lo (w : J4 → Rat) (js : List J4) (k : Nat) : jLo jDu jWk (js.map (jb w)) k = jLo kDu w js k := by unfold jLo; rw [List.map_map]; rfl
theorem jb_hi (w : J4 → Rat) (js : List J4) (k : Nat) : jHi jAr jWk (js.map (jb w)) k = jHi kAr w js k := by unfold jHi; rw [List.map_map]; rfl
theorem jb_last (w : J4 → Rat) (js : List J4) : jLast (js.map (jb w)) = (js.map kDu).getD (js.length - 1) 0 := by
  unfold jLast
  rw [List.length_map, List.getD, List.getD, List.getElem?_map, List.getElem?_map]
  cases js[js.length - 1]? <;> rfl
theorem jb_ok {w : J4 → Rat} {js : List J4} {a d : Nat} (J : J4Ok js a d) (h1 : 1 ≤ js.length) (h2 : js.length ≤ 12) (hw : ∀ j ∈ js, 0 < w j ∧ bd 60 12 (w j)) : JbOk 60 12 (js.map (jb w)) where
  ok := {
    l1 := by rw [List.length_map]; exact h1
    l2 := by rw [List.length_map]; exact h2
    ok := fun x hx => by
      obtain ⟨j, hj, rfl⟩ := List.mem_map.mp hx
      have := J.ok j hj
      exact ⟨this.1, this.2.1, (hw j hj).1, sm60 (hw j hj).2 (by decide)⟩
    ff := by
      unfold Fifo
      rw [List.pairwise_map]
      exact J.ff }
  d0 := by decide
  dd := Nat.lt_of_lt_of_le (show 60 * K24 < 2 ^ 100 by decide) (Nat.pow_le_pow_right (by decide) (by decide))
  mm := Nat.lt_of_lt_of_le (show 4 * (12 * 12) * (60 * K24) < 2 ^ 100 by decide) (Nat.pow_le_pow_right (by decide) (by decide))
  bw := fun x hx => by
    obtain ⟨j, hj, rfl⟩ := List.mem_map.mp hx
    exact (hw j hj).2
theorem stepsL_length (qs : List Rat) : (stepsL qs).length = qs.length - 1 := by simp [stepsL]
theorem stepsL_at {qs : List Rat} {k : Nat} (h : k + 1 < qs.length) : at0 (stepsL qs) k = at0 qs (k + 1) - at0 qs k := by
  rw [at0_lt (by rw [stepsL_length]; omega)]
  simp [stepsL]
theorem stepsL_sum (qs : List Rat) : sumL (stepsL qs) = at0 qs (qs.length - 1) - at0 qs 0 := by
  unfold stepsL
  rw [sumL_range, sum_steps]
theorem bd_steps {D M : Nat} {qs : List Rat} (h : ∀ q ∈ qs, bd D M q) : ∀ x ∈ stepsL qs, bd D (M + M) x := fun x hx => by
  unfold stepsL at hx
  obtain ⟨k, hk, rfl⟩ := List.mem_map.mp hx
  have hk' := List.mem_range.mp hk
  exact bd_sub (at0_mem h _ (by omega)) (at0_mem h _ (by omega))
theorem sumL_at0 (xs : List Rat) : sumL xs = sumTo (at0 xs) xs.length := by
  rw [sum_take, List.take_length]
/-- three rows of speeds: by the greatest works nothing is less -/
theorem three_rows {js : List J4} {a d n : Nat} {r1 r2 r3 : List Rat} (J : J4Ok js a d) (hn : ∀ j ∈ js, kDu j ≤ n) (l1 : r1.length = n + 1) (l2 : r2.length = n + 1) (l3 : r3.length = n + 1)
    (T1 : Taut (jLo kDu kW1 js) (jHi kAr kW1 js) n (at0 r1)) (T2 : Taut (jLo kDu kW2 js) (jHi kAr kW2 js) n (at0 r2)) (T3 : Taut (jLo kDu mx js) (jHi kAr mx js) n (at0 r3)) :
    (∀ k, k < n → at0 (stepsL r1) k ≤ at0 (stepsL r3) k ∧ at0 (stepsL r2) k ≤ at0 (stepsL r3) k) ∧ sumL (stepsL r3) = sumL (js.map mx) ∧ sumL ((apartL (stepsL r1) (stepsL r2)).map ab) ≤ sumL ((apartL (js.map kW1) (js.map kW2)).map ab) := by
  have p1 : ∀ j ∈ js, 0 ≤ kW1 j := fun j hj => Rat.le_of_lt (J.w1 j hj).1
  have p2 : ∀ j ∈ js, 0 ≤ kW2 j := fun j hj => Rat.le_of_lt (J.w2 j hj).1
  have m1 : ∀ j ∈ js, kW1 j ≤ mx j := fun j _ => by unfold mx; split <;> grind
  have m2 : ∀ j ∈ js, kW2 j ≤ mx j := fun j _ => by unfold mx; split <;> grind
  have hd : ∀ j ∈ js, kAr j < kDu j ∧ kDu j ≤ n := fun j hj => ⟨(J.ok j hj).1, hn j hj⟩
  have g1 := jobs_mono J.ff p1 m1 hd T1 T3
  have g2 := jobs_mono J.ff p2 m2 hd T2 T3
  have tot : ∀ {w : J4 → Rat} {r : List Rat}, r.length = n + 1 → Taut (jLo kDu w js) (jHi kAr w js) n (at0 r) → sumL (stepsL r) = sumL (js.map w) := fun {w r} hl T => by
    rw [stepsL_sum, hl]
    have z := jLo_zero (w := w) (ar := kAr) (du := kDu) fun j hj => (hd j hj).1
    have e := jLo_all (w := w) (ar := kAr) (du := kDu) hd
    have i0 := T.inn 0 (Nat.zero_le _)
    have i1 := T.inn n (Nat.le_refl _)
    rw [z.1, z.2] at i0
    rw [e.1, e.2] at i1
    show at0 r n - at0 r 0 = _
    grind
  refine ⟨fun k hk => ?_, tot l3 T3, ?_⟩
  · rw [stepsL_at (by omega), stepsL_at (by omega), stepsL_at (by omega)]
    exact ⟨g1 k hk, g2 k hk⟩
  · have s1 := tot l1 T1
    have s2 := tot l2 T2
    have s3 := tot l3 T3
    have len : ∀ {r : List Rat}, r.length = n + 1 → (stepsL r).length = n := fun {r} h => by rw [stepsL_length, h]; rfl
    have left : sumL ((apartL (stepsL r1) (stepsL r2)).map ab) ≤ sumL (stepsL r3) + sumL (stepsL r3) - sumL (stepsL r1) - sumL (stepsL r2) := by
      have e : (apartL (stepsL r1) (stepsL r2)).map ab = (List.range n).map fun k => ab (at0 (stepsL r2) k - at0 (stepsL r1) k) := by
        apply List.ext_getElem
        · rw [List.length_map, apartL_length, len l1, len l2]; simp
        · intro k h1 h2
          rw [List.length_map, apartL_length, len l1, len l2] at h1
          rw [List.getElem_map, List.getElem_map, List.getElem_range, ← at0_lt, apartL_at (by rw [len l1]; omega) (by rw [len l2]; omega)]
      rw [e, sumL_range, sumL_at0 (stepsL r1), sumL_at0 (stepsL r2), sumL_at0 (stepsL r3), len l1, len l2, len l3, ← sum_add, ← sum_sub, ← sum_sub]
      refine sum_le fun k hk => ?_
      have h1 := g1 k hk
      have h2 := g2 k hk
      rw [← stepsL_at (by omega), ← stepsL_at (by omega)] at h1 h2
      unfold ab
      split <;> grind
    have right : sumL ((apartL (js.map kW1) (js.map kW2)).map ab) = sumL (js.map mx) + sumL (js.map mx) - sumL (js.map kW1) - sumL (js.map kW2) := by
      have e : (apartL (js.map kW1) (js.map kW2)).map ab = js.map fun j => ab (kW2 j - kW1 j) := by
        unfold apartL
        rw [List.zip_map', List.map_map, List.map_map]; rfl
      rw [e, sumL_add, sumL_sub, sumL_sub]
      refine sumL_congr fun j _ => ?_
      unfold ab mx
      split <;> split <;> grind
    rw [right, ← s1, ← s2, ← s3]
    exact left
end DL

/-! DN10 -/
set_option exponentiation.threshold 100
namespace DL
open PySem PySem.Spec PyProof.Rows L2 LC

/-! ## works_right -/
theorem sz_big {M : Nat} (h : M ≤ 1000000) : SzOk (60 * K24) M := ⟨by decide, Nat.lt_of_lt_of_le (show 60 * K24 < 2 ^ 100 by decide) (Nat.pow_le_pow_right (by decide) (by decide)),
  Nat.lt_of_le_of_lt (Nat.mul_le_mul_right _ (Nat.mul_le_mul_left _ h)) (Nat.lt_of_lt_of_le (show 4 * 1000000 * (60 * K24) < 2 ^ 100 by decide) (Nat.pow_le_pow_right (by decide) (by decide)))⟩
theorem sz_60 {M : Nat} (h : M ≤ 1000000) : SzOk 60 M := ⟨by decide, Nat.lt_of_lt_of_le (show 60 < 2 ^ 100 by decide) (Nat.pow_le_pow_right (by decide) (by decide)),
  Nat.lt_of_le_of_lt (Nat.mul_le_mul_right _ (Nat.mul_le_mul_left _ h)) (Nat.lt_of_lt_of_le (show 4 * 1000000 * 60 < 2 ^ 100 by decide) (Nat.pow_le_pow_right (by decide) (by decide)))⟩
def sp_w_works_right : Spec := fun ss R => ∃ (js : List J4) (a d : Nat), ss = [sJ4 js] ∧ (1 ≤ js.length ∧ js.length ≤ 12 ∧ J4Ok js a d) ∧ R (.val (.bl true)) ss
def G_w_works_right : Gam := { fn := [("_law_under", sp_is_less), ("_law_unlike", sp_w_unlike), ("_law_together", sp_w_together), ("speeds", sp_speeds)] }
@[simp ↓ high, simp high] theorem ix_j40 (ρ : Env) (t : J4) (Q : QE) : wpIx ρ (.val (j4D t)) (.val (.int 2)) Q = Q (.val (nD (kW1 t))) ρ := by
  apply propext
  exact ⟨fun ⟨d, h, q⟩ => by cases h; exact q, fun h => ⟨_, rfl, h⟩⟩
@[simp ↓ high, simp high] theorem ix_j41 (ρ : Env) (t : J4) (Q : QE) : wpIx ρ (.val (j4D t)) (.val (.int 3)) Q = Q (.val (nD (kW2 t))) ρ := by
  apply propext
  exact ⟨fun ⟨d, h, q⟩ => by cases h; exact q, fun h => ⟨_, rfl, h⟩⟩
theorem map_snoc {α β : Type} (f : α → β) {xs : List α} {i : Nat} {x : α} (h : xs[i]? = some x) : (xs.take (i + 1)).map f = (xs.take i).map f ++ [f x] := by
  rw [List.take_succ, h, List.map_append]; rfl
theorem b_w_works_right : Body G_w_works_right 16 1 c_w_works_right sp_w_works_right := ⟨by
  rintro _ R ⟨js, a, d, rfl, ⟨l1, l2, J⟩, hR⟩
  refine ⟨rfl, ⟨.inr rfl, by simp⟩, ?_⟩
  show wpSs _ _ [sJ4 js, .non, .non, .non, .non, .non, .non, .non, .non, .non, .non, .non, .non, .non, .non, .non] _
  simp [c_w_works_right, G_w_works_right, -o_ix]
  refine fr_rule ⟨js.map j4D, [(.slot 0, js.map j4D)]⟩ [sJ4 js, sJb [], sJb [], sJb [], .non, .non, .non, .non, .non, .non, .non, .non, .non, .non, .non, .non] (fun K hK => hK) rfl ?_
  have smw : ∀ j ∈ js, sm (kW1 j) ∧ sm (kW2 j) := fun j hj => ⟨sm60 (J.w1 j hj).2 (by decide), sm60 (J.w2 j hj).2 (by decide)⟩
  refine for_map j4D js (fun i ρ => ∃ s4 s5 s6 s7 s13, ρ = [sJ4 js, sJb ((js.take i).map (jb kW1)), sJb ((js.take i).map (jb kW2)), sJb ((js.take i).map (jb mx)), s4, s5, s6, s7, .non, .non, .non, .non, .non, s13, .non, .non]) ⟨.non, .non, .non, .non, .non, rfl⟩ ?_ ?_
  · rintro i j ρ K hj ⟨s4, s5, s6, s7, s13, rfl⟩
    refine ⟨fun z hz => by simp at hz; subst hz; rfl, fun hK => ?_⟩
    have hm := List.mem_of_getElem? hj
    obtain ⟨w1, w2⟩ := smw j hm
    have e : j4D j = .tup [.int (kAr j : Int), .int (kDu j : Int), nD (kW1 j), nD (kW2 j)] := rfl
    have app : ∀ w : J4 → Rat, ((js.take i).map (jb w)).map jobD ++ [DL.D.tup [.int (kAr j : Int), .int (kDu j : Int), nD (w j)]] = ((js.take (i + 1)).map (jb w)).map jobD := fun w => by
      rw [map_snoc (jb w) hj, List.map_append]; rfl
    have lt : (js.take i).length < 100000 := by rw [List.length_take]; omega
    have mxe : mx j = if kW1 j < kW2 j then kW2 j else kW1 j := rfl
    have lt' : min i js.length < 100000 := by omega
    have lt'' : i < 100000 ∨ js.length < 100000 := .inr (by omega)
    by_cases c : kW1 j < kW2 j
    all_goals
      simp only [c, if_true, if_false] at mxe
      simp [frStep_eq, e, G_w_works_right, w1, w2, c, -o_ix, -List.map_map, -List.map_take]
      refine ⟨lt', ?_⟩
      rw [app kW1, app kW2, ← mxe, app mx]
      exact hK _ ⟨_, _, _, _, _, rfl⟩
  · rintro ρ ⟨s4, s5, s6, s7, s13, rfl⟩
    refine ⟨fun z hz => by simp at hz; subst hz; rfl, ?_⟩
    rw [List.take_length]
    simp [G_w_works_right, -o_ix, -List.map_map]
    have wm : ∀ j ∈ js, 0 < mx j ∧ bd 60 12 (mx j) := fun j hj => by
      unfold mx
      split
      · exact J.w2 j hj
      · exact J.w1 j hj
    have O1 := jb_ok J l1 l2 J.w1
    have O2 := jb_ok J l1 l2 J.w2
    have O3 := jb_ok J l1 l2 wm
    have la1 := jb_last kW1 js
    have la2 := jb_last kW2 js
    have la3 := jb_last mx js
    obtain ⟨a1, a2, a3⟩ := O3.ok.last
    rw [la3] at a1 a2 a3
    generalize (js.map kDu).getD (js.length - 1) 0 = n at *
    have hn : ∀ j ∈ js, kDu j ≤ n := fun j hj => (a3 (jb mx j) (List.mem_map.mpr ⟨j, hj, rfl⟩)).2
    refine ⟨60, 12, js.map (jb kW1), rfl, O1, fun r1 m1 t1 b1 => ?_⟩
    rw [la1] at m1 t1
    simp [G_w_works_right, -o_ix, -List.map_map]
    refine ⟨60, 12, js.map (jb kW2), rfl, O2, fun r2 m2 t2 b2 => ?_⟩
    rw [la2] at m2 t2
    simp [G_w_works_right, -o_ix, -List.map_map]
    refine ⟨60, 12, js.map (jb mx), rfl, O3, fun r3 m3 t3 b3 => ?_⟩
    rw [la3] at m3 t3
    have T1 : Taut (jLo kDu kW1 js) (jHi kAr kW1 js) n (at0 r1) := taut_congr (fun k _ => (jb_lo kW1 js k).symm) (fun k _ => (jb_hi kW1 js k).symm) t1
    have T2 : Taut (jLo kDu kW2 js) (jHi kAr kW2 js) n (at0 r2) := taut_congr (fun k _ => (jb_lo kW2 js k).symm) (fun k _ => (jb_hi kW2 js k).symm) t2
    have T3 : Taut (jLo kDu mx js) (jHi kAr mx js) n (at0 r3) := taut_congr (fun k _ => (jb_lo mx js k).symm) (fun k _ => (jb_hi mx js k).symm) t3
    obtain ⟨k1, k2, k3⟩ := three_rows J hn m1 m2 m3 T1 T2 T3
    have x1 := bd_steps b1
    have x2 := bd_steps b2
    have x3 := bd_steps b3
    have e1 : (stepsL r1).length = n := by rw [stepsL_length, m1]; rfl
    have e2 : (stepsL r2).length = n := by rw [stepsL_length, m2]; rfl
    have e3 : (stepsL r3).length = n := by rw [stepsL_length, m3]; rfl
    generalize stepsL r1 = f1 at *
    generalize stepsL r2 = f2 at *
    generalize stepsL r3 = f3 at *
    simp [e1, e2, e3, G_w_works_right, -o_ix, -List.map_map]
    have sF : ∀ {x : Rat}, bd (60 * K24) (12 * 12 + 12 * 12) x → sm x := fun h => (sz_big (M := 1000) (by decide)).sm h (by decide)
    refine fr_rule ⟨intsL 0 n, []⟩ [sJ4 js, sJb (js.map (jb kW1)), sJb (js.map (jb kW2)), sJb (js.map (jb mx)), s4, s5, s6, s7, vR f1, vR f2, vR f3, .non, .non, s13, .non, .non] (fun K hK => ?_) rfl ?_
    · simp [e3]
      exact ⟨by omega, hK⟩
    refine for_map (fun j : Nat => DL.D.int (0 + (j : Int))) (List.range n) (fun i ρ => ∃ s11, ρ = [sJ4 js, sJb (js.map (jb kW1)), sJb (js.map (jb kW2)), sJb (js.map (jb mx)), s4, s5, s6, s7, vR f1, vR f2, vR f3, s11, .non, s13, .non, .non]) ⟨.non, rfl⟩ ?_ ?_
    · rintro i x ρ K hx ⟨s11, rfl⟩
      refine ⟨still_nil _, fun hK => ?_⟩
      have hi : i < n := by
        have := (List.getElem?_eq_some_iff.mp hx).1
        simpa using this
      have ex : x = i := by
        rw [List.getElem?_range hi] at hx
        exact (Option.some.inj hx).symm
      subst ex
      obtain ⟨c1, c2⟩ := k1 x hi
      have g1 : atI f1 (x : Int) = some (at0 f1 x) := atI_at0 (by omega)
      have g2 : atI f2 (x : Int) = some (at0 f2 x) := atI_at0 (by omega)
      have g3 : atI f3 (x : Int) = some (at0 f3 x) := atI_at0 (by omega)
      have t1 : sm (at0 f1 x) := sF (at0_mem x1 _ (by omega))
      have t2 : sm (at0 f2 x) := sF (at0_mem x2 _ (by omega))
      have t3 : sm (at0 f3 x) := sF (at0_mem x3 _ (by omega))
      simp [frStep_eq, -o_ix, -List.map_map]
      refine lc_rule ⟨[at0 f1 x, at0 f2 x].map nD, []⟩ (ρ1 := [sJ4 js, sJb (js.map (jb kW1)), sJb (js.map (jb kW2)), sJb (js.map (jb mx)), s4, s5, s6, s7, vR f1, vR f2, vR f3, vI x, .non, s13, .non, .non]) (fun K' hK' => ?_) (by simp) ?_
      · simp [-o_ix, -List.map_map]
        refine ix_map (seq_R _ _) _ g1 ?_
        simp [-o_ix, -List.map_map]
        refine ix_map (seq_R _ _) _ g2 ?_
        simp [-o_ix, -List.map_map]
        exact hK'
      refine lc_map nD (fun y => .bl (decide (at0 f3 x < y))) (still_nil _) [at0 f1 x, at0 f2 x] [] _ (fun y hy K' hK' => ?_) ?_
      · have ty : sm y := by
          simp at hy
          rcases hy with rfl | rfl
          · exact t1
          · exact t2
        simp [lcStep_eq, G_w_works_right, -o_ix, -List.map_map] at hK' ⊢
        refine ix_map (seq_R _ _) _ g3 ?_
        simp [t3, ty, -o_ix, -List.map_map]
        exact hK'
      · simp [-o_ix, -List.map_map]
        refine ⟨[decide (at0 f3 x < at0 f1 x), decide (at0 f3 x < at0 f2 x)], rfl, ?_⟩
        have n1 : ¬ at0 f3 x < at0 f1 x := Rat.not_lt.mpr c1
        have n2 : ¬ at0 f3 x < at0 f2 x := Rat.not_lt.mpr c2
        simp [n1, n2, -List.map_map]
        exact hK _ ⟨_, rfl⟩
    · rintro ρ ⟨s11, rfl⟩
      refine ⟨still_nil _, ?_⟩
      simp [G_w_works_right, -o_ix, -List.map_map]
      refine ⟨60 * K24, 12 * 12 + 12 * 12, f3, .inl rfl, ⟨sz_big (by decide), by omega, x3⟩, ?_⟩
      simp [-o_ix, -List.map_map]
      refine lc_rule ⟨(js.map (jb mx)).map jobD, [(.slot 3, (js.map (jb mx)).map jobD)]⟩ (ρ1 := [sJ4 js, sJb (js.map (jb kW1)), sJb (js.map (jb kW2)), sJb (js.map (jb mx)), s4, s5, s6, s7, vR f1, vR f2, vR f3, s11, .non, s13, .non, .non]) (fun K' hK' => hK') (by simp; omega) ?_
      refine lc_map jobD (fun j : Job => nD (jWk j)) (fun z hz => by simp at hz; subst hz; simp) (js.map (jb mx)) [] _ (fun y hy K' hK' => ?_) ?_
      · simp [lcStep_eq, jobD, -o_ix, -List.map_map] at hK' ⊢
        exact hK'
      have em : (js.map (jb mx)).map (fun j : Job => nD (jWk j)) = (js.map mx).map nD := by rw [List.map_map, List.map_map]; rfl
      rw [List.nil_append, em]
      simp [G_w_works_right, -o_ix, -List.map_map]
      refine ⟨60 * K24, 12, js.map mx, .inr rfl, ⟨sz_big (by decide), by rw [List.length_map]; omega, fun x hx => ?_⟩, ?_⟩
      · obtain ⟨j, hj, rfl⟩ := List.mem_map.mp hx
        exact bd24 (wm j hj).2
      simp [k2, G_w_works_right, -o_ix, -List.map_map]
      have pick : ∀ (w : J4 → Rat) (js : List J4), js.map (fun j => nD (w j)) = (js.map w).map nD := fun w js => by rw [List.map_map]; rfl
      refine lc_rule ⟨js.map j4D, [(.slot 0, js.map j4D)]⟩ (ρ1 := [sJ4 js, sJb (js.map (jb kW1)), sJb (js.map (jb kW2)), sJb (js.map (jb mx)), s4, s5, s6, s7, vR f1, vR f2, vR f3, s11, .non, s13, .non, .non]) (fun K' hK' => hK') (by simp; omega) ?_
      refine lc_map j4D (fun j => nD (kW1 j)) (fun z hz => by simp at hz; subst hz; simp) js [] _ (fun y hy K' hK' => ?_) ?_
      · simp [lcStep_eq, -o_ix, -List.map_map] at hK' ⊢
        exact hK'
      rw [List.nil_append, pick]
      simp [-o_ix, -List.map_map]
      refine lc_rule ⟨js.map j4D, [(.slot 0, js.map j4D)]⟩ (ρ1 := [sJ4 js, sJb (js.map (jb kW1)), sJb (js.map (jb kW2)), sJb (js.map (jb mx)), s4, s5, s6, s7, vR f1, vR f2, vR f3, s11, .non, s13, .non, .non]) (fun K' hK' => hK') (by simp; omega) ?_
      refine lc_map j4D (fun j => nD (kW2 j)) (fun z hz => by simp at hz; subst hz; simp) js [] _ (fun y hy K' hK' => ?_) ?_
      · simp [lcStep_eq, -o_ix, -List.map_map] at hK' ⊢
        exact hK'
      rw [List.nil_append, pick]
      simp [-o_ix, -List.map_map]
      have bw1 : ∀ x ∈ js.map kW1, bd (60 * K24) 12 x := fun x hx => by
        obtain ⟨j, hj, rfl⟩ := List.mem_map.mp hx
        exact bd24 (J.w1 j hj).2
      have bw2 : ∀ x ∈ js.map kW2, bd (60 * K24) 12 x := fun x hx => by
        obtain ⟨j, hj, rfl⟩ := List.mem_map.mp hx
        exact bd24 (J.w2 j hj).2
      refine ⟨60 * K24, 12, js.map kW1, js.map kW2, .inr rfl, ⟨sz_big (by decide), by rw [List.length_map]; omega, bw1, bw2⟩, ?_⟩
      simp [G_w_works_right, -o_ix, -List.map_map]
      refine ⟨60 * K24, 12 * 12 + 12 * 12, f1, f2, .inl rfl, ⟨sz_big (by decide), by omega, x1, x2⟩, ?_⟩
      have sum_sm : ∀ {xs : List Rat} {N : Nat}, (∀ x ∈ xs, bd (60 * K24) N x) → xs.length ≤ 24 → N ≤ 10000 → sm (sumL xs) := fun {xs N} h hl hN => by
        have := bd_take h hl xs.length
        rw [List.take_length] at this
        exact (sz_big (M := 24 * N) (by omega)).sm this (by omega)
      have t1 : sm (sumL ((apartL (js.map kW1) (js.map kW2)).map ab)) := sum_sm (N := 12 + 12) (fun x hx => by
        obtain ⟨y, hy, rfl⟩ := List.mem_map.mp hx
        exact bd_ab (bd_apart bw1 bw2 y hy)) (by rw [List.length_map, apartL_length, List.length_map, List.length_map]; omega) (by decide)
      have t2 : sm (sumL ((apartL f1 f2).map ab)) := sum_sm (N := 288 + 288) (fun x hx => by
        obtain ⟨y, hy, rfl⟩ := List.mem_map.mp hx
        exact bd_ab (bd_apart x1 x2 y hy)) (by rw [List.length_map, apartL_length]; omega) (by decide)
      have c : ¬ sumL ((apartL (js.map kW1) (js.map kW2)).map ab) < sumL ((apartL f1 f2).map ab) := Rat.not_lt.mpr k3
      simp [t1, t2, c, -o_ix, -List.map_map]
      exact hR⟩
end DL

/-! DN11 -/
set_option exponentiation.threshold 300
namespace DL
open PySem PySem.Spec PyProof.Rows L2 LC

/-! ## packs drawn from the script -/
def sp_w_mixed : Spec := fun ss R => ∃ i : Int, ss = [vI i] ∧ i.natAbs < 2 ^ 2000000 ∧ ∀ m : Int, 0 ≤ m → m < 10 ^ 60 → R (.val (.int m)) ss
theorem b_w_mixed (Γ : Gam) : Body Γ 1 1 c_w_mixed sp_w_mixed := ⟨by
  rintro _ R ⟨i, rfl, hi, hR⟩
  refine ⟨rfl, by simp, ?_⟩
  show wpSs _ _ [vI i] _
  simp [c_w_mixed]
  refine ⟨⟨2000000, 300, hi, by decide, by decide⟩, ?_⟩
  rw [Int.fmod_eq_emod_of_nonneg _ (by decide)]
  refine hR _ (Int.emod_nonneg _ (by decide)) ?_
  have := Int.emod_lt_of_pos (i * 693147180559945309417232121458176568075500134360255254120681) (show (0 : Int) < 10 ^ 60 by decide)
  simpa using this⟩
theorem bits_lt {z : Int} (h : Builtin.Int.intBits z ≤ 1048576) : z.natAbs < 2 ^ 2000000 := by
  unfold Builtin.Int.intBits at h
  by_cases c : z = 0
  · subst c; show 0 < 2 ^ 2000000; exact Nat.two_pow_pos _
  · rw [if_neg (by simpa using c)] at h
    have h1 : z.natAbs < 2 ^ (z.natAbs.log2 + 1) := Nat.lt_log2_self
    exact Nat.lt_of_lt_of_le h1 (Nat.pow_le_pow_right (by decide) (Nat.le_trans h (by decide)))
abbrev vSc (ns : List Int) : Sl := .fd (.val (.lst (ns.map DL.D.int)))
def sp_w_pack : Spec := fun ss R => ∃ (ns : List Int) (k : Nat), ss = [vSc ns, vI k] ∧ (ns.length ≤ 63 ∧ k ≤ 1000 ∧ ∀ z ∈ ns, Builtin.Int.intBits z ≤ 1048576) ∧ ∀ n : Int, 0 ≤ n → R (.lst [.int n]) ss
def G_w_pack : Gam := { fn := [("_law_mixed", sp_w_mixed)] }
theorem mem_cut {α : Type} {xs : List α} {lo hi : Option Int} {x : α} (h : x ∈ cut xs lo hi) : x ∈ xs := List.mem_of_mem_drop (List.mem_of_mem_take h)
theorem cell_law {ns : List Int} (hb : ∀ z ∈ ns, Builtin.Int.intBits z ≤ 1048576) (lo hi : Option Int) {c : Int} (hc : c.natAbs < 2 ^ 2000000) : ∃ i : Int, atI (cut (ns.map DL.D.int) lo hi ++ [DL.D.int c]) 0 = some (.int i) ∧ i.natAbs < 2 ^ 2000000 := by
  rw [cut_map]
  cases h : cut ns lo hi with
  | nil => exact ⟨c, rfl, hc⟩
  | cons z zs => exact ⟨z, (atI_nat _ 0).trans rfl, bits_lt (hb z (mem_cut (lo := lo) (hi := hi) (by rw [h]; exact List.mem_cons_self)))⟩
theorem sl_lst {ρ : Env} {ds : List DL.D} {lo hi : Option Int} {Q : QE} : wpSl ρ (.val (.lst ds)) lo hi Q = Q (.tmp (cut ds lo hi)) ρ := rfl
theorem b_w_pack : Body G_w_pack 4 2 c_w_pack sp_w_pack := ⟨by
  rintro _ R ⟨ns, k, rfl, ⟨hl, hk, hb⟩, hR⟩
  refine ⟨rfl, by simp, ?_⟩
  show wpSs _ _ [vSc ns, vI k, .non, .non] _
  simp [c_w_pack, G_w_pack, -o_ix]
  refine fr_rule ⟨[(k : Int) + 1, (k : Int)].map DL.D.int, []⟩ [vSc ns, vI k, vI 0, .non] (fun K hK => by simp; exact hK) rfl ?_
  refine for_map DL.D.int [(k : Int) + 1, (k : Int)] (fun i ρ => ∃ (f : Int) (s3 : Sl), ρ = [vSc ns, vI k, vI f, s3] ∧ 0 ≤ f ∧ f < 10 ^ (60 * i)) ⟨0, .non, rfl, by decide, by decide⟩ ?_ ?_
  · rintro i x ρ K hx ⟨f, s3, rfl, f0, f1⟩
    refine ⟨still_nil _, fun hK => ?_⟩
    have hi : i < 2 := by
      have := (List.getElem?_eq_some_iff.mp hx).1
      simpa using this
    have xk : 0 ≤ x ∧ x ≤ 1001 := by
      have hm := List.mem_of_getElem? hx
      simp at hm
      rcases hm with h | h <;> omega
    have big : ∀ {m : Nat}, m < 2 ^ 100 → m < 2 ^ 2000000 := fun h => Nat.lt_of_lt_of_le h (Nat.pow_le_pow_right (by decide) (by decide))
    have f2 : f < 10 ^ 60 := Int.lt_of_lt_of_le f1 (by
      have : i = 0 ∨ i = 1 := by omega
      rcases this with h | h <;> subst h <;> decide)
    simp [frStep_eq, G_w_pack, sl_lst, -o_ix]
    have e1 : mulOk f (10 ^ 60) := ⟨300, 300, by
      have : f.natAbs < 10 ^ 60 := by omega
      exact Nat.lt_of_lt_of_le this (by decide), by decide, by decide⟩
    have e2 : mulOk 6841 x := ⟨100, 100, by decide, lt_100 (by omega), by decide⟩
    have hcell : (6841 * x + 37).natAbs < 2 ^ 2000000 := big (Nat.lt_of_lt_of_le (show (6841 * x + 37).natAbs < 10000000 by omega) (by decide))
    obtain ⟨c, c1, c2⟩ := cell_law hb (some x) (some (x + 1)) hcell
    refine ⟨by simpa using e1, e2, ?_, ?_⟩
    · rw [cut_map, List.length_map]
      unfold cut
      rw [List.length_take, List.length_drop]
      omega
    rw [o_ix, e_seqL]
    refine ⟨_, c1, ?_⟩
    simp [G_w_pack, -o_ix]
    refine ⟨c, rfl, c2, fun m m0 m1 => ?_⟩
    simp
    refine hK _ ⟨_, _, rfl, by omega, ?_⟩
    have e : (10 : Int) ^ (60 * (i + 1)) = 10 ^ (60 * i) * 10 ^ 60 := by rw [Nat.mul_add, Int.pow_add]
    rw [e]
    have m1 : m < 1000000000000000000000000000000000000000000000000000000000000 := by simpa using m1
    have e60 : (10 : Int) ^ 60 = 1000000000000000000000000000000000000000000000000000000000000 := by decide
    rw [e60]
    generalize (10 : Int) ^ (60 * i) = P at f1
    omega
  · rintro ρ ⟨f, s3, rfl, f0, f1⟩
    refine ⟨still_nil _, ?_⟩
    simp
    exact hR f f0⟩
end DL

/-! DN12 -/
set_option exponentiation.threshold 300
namespace DL
open PySem PySem.Spec PyProof.Rows L2 LC

/-! ## law k98 -/
/-- what two rows in tubes of one width differ by -/
theorem led_diff {d1 d2 r1 r2 : List Rat} {p q : Rat} {n : Nat} (l1 : d1.length = n + 1) (l2 : d2.length = n + 1) (m1 : r1.length = n + 2) (m2 : r2.length = n + 2)
    (T1 : Taut (fun k => if 0 < k ∧ k < n + 1 then Sm d1 k - q else Sm d1 k) (fun k => if 0 < k ∧ k < n + 1 then Sm d1 k + p else Sm d1 k) (n + 1) (at0 r1))
    (T2 : Taut (fun k => if 0 < k ∧ k < n + 1 then Sm d2 k - q else Sm d2 k) (fun k => if 0 < k ∧ k < n + 1 then Sm d2 k + p else Sm d2 k) (n + 1) (at0 r2)) : Led (apartL d1 d2) (apartL (stepsL r1) (stepsL r2)) := by
  have la : (apartL d1 d2).length = n + 1 := by rw [apartL_length, l1, l2, Nat.min_self]
  have ls : (apartL (stepsL r1) (stepsL r2)).length = n + 1 := by rw [apartL_length, stepsL_length, stepsL_length, m1, m2]; simp
  have ea : ∀ k, k < n + 1 → at0 (apartL d1 d2) k = (Sm d2 (k + 1) - Sm d2 k) - (Sm d1 (k + 1) - Sm d1 k) := fun k hk => by
    rw [apartL_at (by omega) (by omega), at0_lt (show k < d1.length by omega), at0_lt (show k < d2.length by omega)]
    have s1 := Sm_succ (q := d1) (List.getElem?_eq_getElem (show k < d1.length by omega))
    have s2 := Sm_succ (q := d2) (List.getElem?_eq_getElem (show k < d2.length by omega))
    rw [s1, s2]; grind
  have es : ∀ k, k < n + 1 → at0 (apartL (stepsL r1) (stepsL r2)) k = (at0 r2 (k + 1) - at0 r2 k) - (at0 r1 (k + 1) - at0 r1 k) := fun k hk => by
    rw [apartL_at (by rw [stepsL_length]; omega) (by rw [stepsL_length]; omega), stepsL_at (by omega), stepsL_at (by omega)]
  have hz : ∀ (t : Rat) (xs : List Rat), hinges t xs = sumTo (fun k => hinge t (at0 xs k)) xs.length := fun t xs => by
    unfold hinges
    have e : xs.map (hinge t) = (List.range xs.length).map fun k => hinge t (at0 xs k) := by
      conv => lhs; rw [← map_range_at0 xs]
      rw [List.map_map]; rfl
    rw [e, sumL_range]
  have ends : ∀ {d r : List Rat}, Taut (fun k => if 0 < k ∧ k < n + 1 then Sm d k - q else Sm d k) (fun k => if 0 < k ∧ k < n + 1 then Sm d k + p else Sm d k) (n + 1) (at0 r) → at0 r 0 = Sm d 0 ∧ at0 r (n + 1) = Sm d (n + 1) := fun {d r} T => by
    have h0 := T.inn 0 (by omega)
    have h1 := T.inn (n + 1) (Nat.le_refl _)
    simp at h0 h1
    exact ⟨by grind, by grind⟩
  refine ⟨fun t => ?_, ?_⟩
  · rw [hz, hz, la, ls]
    have := diff_law (A := Sm d1) (B := Sm d2) (p := fun _ => p) (q := fun _ => q) T1 T2 rfl t
    rw [sum_congr (f := fun k => hinge t (at0 (apartL (stepsL r1) (stepsL r2)) k)) (g := fun k => hinge t ((at0 r2 (k + 1) - at0 r2 k) - (at0 r1 (k + 1) - at0 r1 k))) fun k hk => by show hinge t _ = hinge t _; rw [es k hk],
      sum_congr (f := fun k => hinge t (at0 (apartL d1 d2) k)) (g := fun k => hinge t ((Sm d2 (k + 1) - Sm d2 k) - (Sm d1 (k + 1) - Sm d1 k))) fun k hk => by show hinge t _ = hinge t _; rw [ea k hk]]
    exact this
  · rw [sumL_at0, sumL_at0, la, ls, sum_congr es, sum_congr ea, sum_sub (fun k => at0 r2 (k + 1) - at0 r2 k) (fun k => at0 r1 (k + 1) - at0 r1 k), sum_sub (fun k => Sm d2 (k + 1) - Sm d2 k) (fun k => Sm d1 (k + 1) - Sm d1 k), sum_steps, sum_steps, sum_steps, sum_steps]
    obtain ⟨a1, a2⟩ := ends T1
    obtain ⟨b1, b2⟩ := ends T2
    rw [a1, a2, b1, b2]
def G_law : Gam := { fn := [("_law_levelled_right", sp_w_right), ("_law_apart", sp_w_apart), ("bought", sp_bought), ("_law_two", sp_w_two), ("_law_works_right", sp_w_works_right), ("_law_jobs", sp_w_jobs), ("smoothed", sp_smoothed), ("_law_amount", sp_w_amount), ("_law_pack", sp_w_pack)] }
theorem Sm_bd {D M : Nat} {q : List Rat} (h : ∀ x ∈ q, bd D M x) (hl : q.length ≤ 24) (k : Nat) : bd D (24 * M) (Sm q k) := bd_take h hl k
theorem smOk_of {q : List Rat} {p : Rat} (h1 : 1 ≤ q.length) (h2 : q.length ≤ 24) (hq : ∀ x ∈ q, bd 60 129 x) (hp : bd 60 120 p) (p0 : 0 ≤ p) : SmOk 60 4000 q p :=
  ⟨h1, h2, by decide, Nat.lt_of_lt_of_le (show 60 * K24 < 2 ^ 100 by decide) (Nat.pow_le_pow_right (by decide) (by decide)), Nat.lt_of_lt_of_le (show 4 * (4000 + 4000) * (60 * K24) < 2 ^ 100 by decide) (Nat.pow_le_pow_right (by decide) (by decide)), p0, bd_le hp (by decide), fun x hx => bd_le (hq x hx) (by decide), fun k _ => bd_le (Sm_bd hq h2 k) (by decide)⟩
theorem steps_n {r : List Rat} {n : Nat} (h : r.length = n + 1) : (stepsL r).length = n := by rw [stepsL_length, h]; rfl
/-- the two rows of a drawn pair -/
theorem right_ok {d1 d2 r1 r2 : List Rat} (hl : d2.length = d1.length) (h1 : 1 ≤ d1.length) (h2 : d1.length ≤ 24) (b1 : ∀ x ∈ d1, bd 60 129 x) (b2 : ∀ x ∈ d2, bd 60 129 x) (m1 : r1.length = d1.length + 1) (m2 : r2.length = d2.length + 1)
    (c1 : ∀ y ∈ r1, bd (60 * K24) (4000 + 4000) y) (c2 : ∀ y ∈ r2, bd (60 * K24) (4000 + 4000) y) (L : Led (apartL d1 d2) (apartL (stepsL r1) (stepsL r2))) :
    SzOk (60 * K24) (24 * 32000) ∧ (apartL d1 d2).length = (apartL (stepsL r1) (stepsL r2)).length ∧ 1 ≤ (apartL d1 d2).length ∧ (apartL d1 d2).length ≤ 24 ∧ (∀ x ∈ apartL d1 d2, bd (60 * K24) 32000 x) ∧ (∀ x ∈ apartL (stepsL r1) (stepsL r2), bd (60 * K24) 32000 x) ∧ Led (apartL d1 d2) (apartL (stepsL r1) (stepsL r2)) := by
  have e1 := steps_n m1
  have e2 := steps_n m2
  refine ⟨sz_big (by decide), by rw [apartL_length, apartL_length, e1, e2], by rw [apartL_length]; omega, by rw [apartL_length]; omega, fun x hx => bd_le (bd24 (bd_apart b1 b2 x hx)) (by decide), fun x hx => bd_le (bd_apart (bd_steps c1) (bd_steps c2) x hx) (by decide), L⟩
theorem rg3 (m : Nat) (hm : 1 ≤ m) (hm2 : m ≤ 12) : ∃ n, n ≤ 3 ∧ RgC 0 (m : Int) 4 n := by
  refine ⟨(m + 3) / 4, by omega, by decide, by decide, ?_, ?_⟩
  · have : m = 1 ∨ m = 2 ∨ m = 3 ∨ m = 4 ∨ m = 5 ∨ m = 6 ∨ m = 7 ∨ m = 8 ∨ m = 9 ∨ m = 10 ∨ m = 11 ∨ m = 12 := by omega
    rcases this with h | h | h | h | h | h | h | h | h | h | h | h <;> subst h <;> decide
  · have : m = 1 ∨ m = 2 ∨ m = 3 ∨ m = 4 ∨ m = 5 ∨ m = 6 ∨ m = 7 ∨ m = 8 ∨ m = 9 ∨ m = 10 ∨ m = 11 ∨ m = 12 := by omega
    rcases this with h | h | h | h | h | h | h | h | h | h | h | h <;> subst h <;> decide
theorem r3_it {Γ : Gam} {a b c : E} {s : Sl} {ρ : Env} {K : Items → Env → Prop} : wpIt Γ (.r3 a b c) (s :: ρ) K = wpE Γ a (s :: ρ) fun x ρ1 => wpE Γ b ρ1 fun y ρ2 => wpE Γ c ρ2 fun z ρ3 => (match x, y, z with
    | .val (.int i), .val (.int j), .val (.int k) => ∃ n, RgC i j k n ∧ K ⟨intsC i k n, []⟩ ρ3
    | _, _, _ => False) := rfl
theorem smTube_taut {q : List Rat} {p : Rat} {n : Nat} {r : List Rat} (hl : q.length = n + 1) (T : Taut (loT (smTube q p)) (hiT (smTube q p)) q.length (at0 r)) :
    Taut (fun k => if 0 < k ∧ k < n + 1 then Sm q k - p else Sm q k) (fun k => if 0 < k ∧ k < n + 1 then Sm q k + p else Sm q k) (n + 1) (at0 r) := by
  rw [hl] at T
  refine taut_congr (fun k hk => ?_) (fun k hk => ?_) T
  · have := (smTube_lo q p (by omega) (k := k) (by omega)).1
    rw [hl] at this
    exact this.symm
  · have := (smTube_lo q p (by omega) (k := k) (by omega)).2
    rw [hl] at this
    exact this.symm
theorem stTube_taut {q : List Rat} {p : Rat} {n : Nat} {r : List Rat} (hl : q.length = n + 1) (T : Taut (loT (stTube q p)) (hiT (stTube q p)) q.length (at0 r)) :
    Taut (fun k => if 0 < k ∧ k < n + 1 then Sm q k - 0 else Sm q k) (fun k => if 0 < k ∧ k < n + 1 then Sm q k + p else Sm q k) (n + 1) (at0 r) := by
  rw [hl] at T
  refine taut_congr (fun k hk => ?_) (fun k hk => ?_) T
  · have := (stTube_lo q p (by omega) (k := k) (by omega)).1
    rw [this]
    split <;> grind
  · have := (stTube_lo q p (by omega) (k := k) (by omega)).2
    rw [hl] at this
    exact this.symm
theorem b_law : Body G_law 11 1 c_law sp_law := ⟨by
  rintro _ R ⟨ns, rfl, ⟨hl, hb⟩, hR⟩
  refine ⟨rfl, by simp, ?_⟩
  show wpSs _ _ [vSc ns, .non, .non, .non, .non, .non, .non, .non, .non, .non, .non] _
  simp [c_law, G_law, -o_ix]
  obtain ⟨m, em, m1, m2⟩ : ∃ m : Nat, max 1 (min (ns.length : Int) 12) = (m : Int) ∧ 1 ≤ m ∧ m ≤ 12 := ⟨max 1 (min ns.length 12), by omega, by omega, by omega⟩
  obtain ⟨cnt, c3, rg⟩ := rg3 m m1 m2
  refine fr_rule ⟨intsC 0 4 cnt, []⟩ [vSc ns, .non, .non, .non, .non, .non, .non, .non, .non, .non, .non] (fun K hK => ?_) rfl ?_
  · rw [r3_it]
    simp [em]
    exact ⟨cnt, rg, hK⟩
  refine for_map (fun k : Nat => DL.D.int (0 + (k : Int) * 4)) (List.range cnt) (fun i ρ => ∃ s1 s2 s3 s4 s5 s6 s7 s8 s9 s10, ρ = [vSc ns, s1, s2, s3, s4, s5, s6, s7, s8, s9, s10]) ⟨_, _, _, _, _, _, _, _, _, _, rfl⟩ ?_ ?_
  · rintro i x ρ K hx ⟨s1, s2, s3, s4, s5, s6, s7, s8, s9, s10, rfl⟩
    refine ⟨still_nil _, fun hK => ?_⟩
    have hi : x < cnt := List.mem_range.mp (List.mem_of_getElem? hx)
    simp [frStep_eq, G_law, -o_ix]
    obtain ⟨k, ek, k12⟩ : ∃ k : Nat, (x : Int) * 4 = (k : Int) ∧ k ≤ 12 := ⟨x * 4, by omega, by omega⟩
    rw [ek]
    refine ⟨ns, k, rfl, ⟨hl, by omega, hb⟩, fun n1 p1 => ?_⟩
    simp [G_law, -o_ix]
    refine ⟨ns, k + 2, rfl, ⟨hl, by omega, hb⟩, fun n2 p2 => ?_⟩
    simp [G_law, -o_ix]
    refine ⟨n1, rfl, p1, fun price n3 p3 bp pp => ?_⟩
    simp [G_law, -o_ix]
    refine ⟨n2, rfl, p2, fun room n4 p4 br pr => ?_⟩
    simp [G_law, -o_ix]
    refine ⟨n3, false, rfl, p3, fun d1 d2 n5 p5 ld h1 h2 b1 b2 _ => ?_⟩
    obtain ⟨n, hn⟩ : ∃ n, d1.length = n + 1 := ⟨d1.length - 1, by omega⟩
    simp [G_law, -o_ix]
    refine ⟨60, 4000, d1, price, rfl, smOk_of h1 h2 b1 bp pp, fun r1 m1 t1 c1 => ?_⟩
    simp [G_law, -o_ix]
    refine ⟨60, 4000, d2, price, rfl, smOk_of (by omega) (by omega) b2 bp pp, fun r2 m2 t2 c2 => ?_⟩
    simp [G_law, -o_ix]
    have smS : ∀ {r : List Rat}, (∀ y ∈ r, bd (60 * K24) (4000 + 4000) y) → ∀ y ∈ stepsL r, sm y := fun {r} h y hy => (sz_big (M := 16000) (by decide)).sm (bd_steps h y hy) (by decide)
    have e1 := steps_n m1
    have e2 := steps_n m2
    refine ⟨⟨by omega, smS c1, smS c2⟩, ?_⟩
    have L := led_diff hn (by omega) (by omega) (by omega) (smTube_taut hn t1) (smTube_taut (by omega) t2)
    have Rt := right_ok ld h1 h2 b1 b2 m1 m2 c1 c2 L
    have s60 : ∀ {q : List Rat}, (∀ y ∈ q, bd 60 129 y) → ∀ y ∈ q, sm y := fun {q} h y hy => sm60 (h y hy) (by decide)
    refine ⟨⟨by omega, s60 b1, s60 b2⟩, ?_⟩
    refine ⟨60 * K24, 32000, _, _, rfl, Rt, ?_⟩
    simp [G_law, -o_ix]
    refine ⟨n4, 6, rfl, ⟨p4, by decide, by decide⟩, fun js n6 a d p6 j1 j2 J => ?_⟩
    simp [G_law, -o_ix]
    refine ⟨js, a, d, rfl, ⟨j1, by omega, J⟩, ?_⟩
    simp [G_law, -o_ix]
    refine ⟨n6, true, rfl, p6, fun g1 g2 n7 p7 lg u1 u2 v1 v2 vv => ?_⟩
    obtain ⟨w1, w2⟩ := vv rfl
    obtain ⟨n', hn'⟩ : ∃ n, g1.length = n + 1 := ⟨g1.length - 1, by omega⟩
    simp [G_law, -o_ix]
    refine ⟨60, 4000, g1, room, rfl, ⟨smOk_of u1 u2 v1 br pr, w1⟩, fun r3 m3 t3 c3' => ?_⟩
    simp [G_law, -o_ix]
    refine ⟨60, 4000, g2, room, rfl, ⟨smOk_of (by omega) (by omega) v2 br pr, w2⟩, fun r4 m4 t4 c4 => ?_⟩
    simp [G_law, -o_ix]
    have e3 := steps_n m3
    have e4 := steps_n m4
    refine ⟨⟨by omega, smS c3', smS c4⟩, ?_⟩
    have L' := led_diff hn' (by omega) (by omega) (by omega) (stTube_taut hn' t3) (stTube_taut (by omega) t4)
    have Rt' := right_ok lg u1 u2 v1 v2 m3 m4 c3' c4 L'
    refine ⟨⟨by omega, s60 v1, s60 v2⟩, ?_⟩
    refine ⟨60 * K24, 32000, _, _, rfl, Rt', ?_⟩
    simp [G_law, -o_ix]
    exact hK _ ⟨_, _, _, _, _, _, _, _, _, _, rfl⟩
  · rintro ρ ⟨s1, s2, s3, s4, s5, s6, s7, s8, s9, s10, rfl⟩
    refine ⟨still_nil _, ?_⟩
    simp
    exact hR⟩
end DL

/-! CN1 -/
/-! rows of a tied tube against its cord -/
namespace LC
section
variable {lo hi : Nat → Rat} {n : Nat} {R r : Nat → Rat}
theorem lead_up (T : Taut lo hi (n + 1) R) (h : ∀ k, k ≤ n + 1 → lo k ≤ r k ∧ r k ≤ hi k) {k : Nat} (hk : k < n) (c : R (k + 1) - R k < R (k + 2) - R (k + 1)) : r (k + 1) - R (k + 1) ≤ 0 := by
  have e := T.up k (by omega) c
  have := (h (k + 1) (by omega)).2
  rw [e]; grind
theorem lead_dn (T : Taut lo hi (n + 1) R) (h : ∀ k, k ≤ n + 1 → lo k ≤ r k ∧ r k ≤ hi k) {k : Nat} (hk : k < n) (c : R (k + 2) - R (k + 1) < R (k + 1) - R k) : 0 ≤ r (k + 1) - R (k + 1) := by
  have e := T.dn k (by omega) c
  have := (h (k + 1) (by omega)).1
  rw [e]; grind
/-- the cord's steps are the most level of all rows' -/
theorem row_hinge (T : Taut lo hi (n + 1) R) (h : ∀ k, k ≤ n + 1 → lo k ≤ r k ∧ r k ≤ hi k) (e0 : r 0 = R 0) (en : r (n + 1) = R (n + 1)) (t : Rat) :
    sumTo (fun k => hinge t (R (k + 1) - R k)) (n + 1) ≤ sumTo (fun k => hinge t (r (k + 1) - r k)) (n + 1) :=
  hinge_law (fun k => R (k + 1) - R k) (fun k => r (k + 1) - r k) (fun k => r k - R k) n (fun k _ => by grind) (by grind) (by grind) (fun k hk c => lead_up T h hk c) (fun k hk c => lead_dn T h hk c) t
/-- against the cord, no row's steps fall short -/
theorem row_lead (T : Taut lo hi (n + 1) R) (h : ∀ k, k ≤ n + 1 → lo k ≤ r k ∧ r k ≤ hi k) (e0 : r 0 = R 0) (en : r (n + 1) = R (n + 1)) :
    0 ≤ sumTo (fun k => (R (k + 1) - R k) * ((r (k + 1) - r k) - (R (k + 1) - R k))) (n + 1) := by
  have q := abel_le (fun k => R (k + 1) - R k) (fun k => r k - R k) n (by grind) (by grind) fun k hk => by
    show ((R (k + 2) - R (k + 1)) - (R (k + 1) - R k)) * (r (k + 1) - R (k + 1)) ≤ 0
    generalize hd : (R (k + 2) - R (k + 1)) - (R (k + 1) - R k) = d
    generalize hw : r (k + 1) - R (k + 1) = w
    by_cases c1 : R (k + 1) - R k < R (k + 2) - R (k + 1)
    · have := lead_up T h hk c1
      rw [hw] at this
      have : 0 ≤ d * (-w) := Rat.mul_nonneg (by grind) (by grind)
      grind
    · by_cases c2 : R (k + 2) - R (k + 1) < R (k + 1) - R k
      · have := lead_dn T h hk c2
        rw [hw] at this
        have : 0 ≤ (-d) * w := Rat.mul_nonneg (by grind) (by grind)
        grind
      · have : d = 0 := by grind
        rw [this]; grind
  refine Rat.le_trans q ?_
  suffices e : sumTo (fun k => (R (k + 1) - R k) * ((r (k + 1) - R (k + 1)) - (r k - R k))) (n + 1) = sumTo (fun k => (R (k + 1) - R k) * ((r (k + 1) - r k) - (R (k + 1) - R k))) (n + 1) by
    rw [← e]; exact Rat.le_refl
  refine sum_congr fun k _ => ?_
  show (R (k + 1) - R k) * ((r (k + 1) - R (k + 1)) - (r k - R k)) = _
  congr 1
  grind
theorem sq_nn (x : Rat) : 0 ≤ x * x := by
  by_cases c : 0 ≤ x
  · exact Rat.mul_nonneg c c
  · have := Rat.mul_nonneg (show 0 ≤ -x by grind) (show 0 ≤ -x by grind)
    grind
/-- what a row's squares are more than the cord's -/
theorem row_sq (T : Taut lo hi (n + 1) R) (h : ∀ k, k ≤ n + 1 → lo k ≤ r k ∧ r k ≤ hi k) (e0 : r 0 = R 0) (en : r (n + 1) = R (n + 1)) :
    sumTo (fun k => (R (k + 1) - R k) * (R (k + 1) - R k)) (n + 1) + sumTo (fun k => ((r (k + 1) - r k) - (R (k + 1) - R k)) * ((r (k + 1) - r k) - (R (k + 1) - R k))) (n + 1) ≤ sumTo (fun k => (r (k + 1) - r k) * (r (k + 1) - r k)) (n + 1) := by
  have q := row_lead T h e0 en
  have e : sumTo (fun k => (r (k + 1) - r k) * (r (k + 1) - r k)) (n + 1) = sumTo (fun k => (R (k + 1) - R k) * (R (k + 1) - R k)) (n + 1) + sumTo (fun k => ((r (k + 1) - r k) - (R (k + 1) - R k)) * ((r (k + 1) - r k) - (R (k + 1) - R k))) (n + 1)
      + (sumTo (fun k => (R (k + 1) - R k) * ((r (k + 1) - r k) - (R (k + 1) - R k))) (n + 1) + sumTo (fun k => (R (k + 1) - R k) * ((r (k + 1) - r k) - (R (k + 1) - R k))) (n + 1)) := by
    rw [← sum_add, ← sum_add, ← sum_add]
    refine sum_congr fun k _ => ?_
    generalize r (k + 1) - r k = a
    generalize R (k + 1) - R k = b
    grind
  rw [e]
  grind
theorem steps_eq_of {a b : Nat → Rat} {m : Nat} (e0 : a 0 = b 0) (h : ∀ k, k < m → a (k + 1) - a k = b (k + 1) - b k) : ∀ k, k ≤ m → a k = b k := fun k => by
  induction k with
  | zero => intro _; exact e0
  | succ k ih =>
    intro hk
    have := ih (by omega)
    have := h k (by omega)
    grind
/-- squares alike: the same row -/
theorem row_same (T : Taut lo hi (n + 1) R) (h : ∀ k, k ≤ n + 1 → lo k ≤ r k ∧ r k ≤ hi k) (e0 : r 0 = R 0) (en : r (n + 1) = R (n + 1))
    (hs : sumTo (fun k => (r (k + 1) - r k) * (r (k + 1) - r k)) (n + 1) ≤ sumTo (fun k => (R (k + 1) - R k) * (R (k + 1) - R k)) (n + 1)) : ∀ k, k ≤ n + 1 → r k = R k := by
  have q := row_sq T h e0 en
  have z0 : sumTo (fun _ => (0 : Rat)) (n + 1) = 0 := by
    have : ∀ m, sumTo (fun _ => (0 : Rat)) m = 0 := fun m => by
      induction m with
      | zero => rfl
      | succ m ih => simp only [sumTo, ih]; grind
    exact this _
  have nn : (0 : Rat) ≤ sumTo (fun k => ((r (k + 1) - r k) - (R (k + 1) - R k)) * ((r (k + 1) - r k) - (R (k + 1) - R k))) (n + 1) := by
    rw [← z0]; exact sum_le fun k _ => sq_nn _
  have z := sum_zero_of_nn (d := fun k => ((r (k + 1) - r k) - (R (k + 1) - R k)) * ((r (k + 1) - r k) - (R (k + 1) - R k))) (n := n + 1) (fun j _ => sq_nn _) (by grind)
  refine steps_eq_of e0 fun k hk => ?_
  have := z k hk
  have : (r (k + 1) - r k) - (R (k + 1) - R k) = 0 := by
    rcases Rat.mul_eq_zero.mp this with h | h <;> exact h
  grind
/-- there is one taut row only -/
theorem taut_unique (T : Taut lo hi (n + 1) R) (T' : Taut lo hi (n + 1) r) (e0 : r 0 = R 0) (en : r (n + 1) = R (n + 1)) : ∀ k, k ≤ n + 1 → r k = R k := by
  have q := row_sq T' T.inn e0.symm en.symm
  refine row_same T T'.inn e0 en ?_
  have z0 : ∀ m, sumTo (fun _ => (0 : Rat)) m = 0 := fun m => by
    induction m with
    | zero => rfl
    | succ m ih => simp only [sumTo, ih]; grind
  have nn : (0 : Rat) ≤ sumTo (fun k => ((R (k + 1) - R k) - (r (k + 1) - r k)) * ((R (k + 1) - R k) - (r (k + 1) - r k))) (n + 1) := by
    rw [← z0 (n + 1)]; exact sum_le fun k _ => sq_nn _
  grind
end
end LC

/-! DP0 -/

set_option exponentiation.threshold 100
namespace DL
open PySem PySem.Spec PyProof.Rows L2 LC

/-! ## texts, claims: what may be compared -/
mutual
/-- plain data of so many storeys -/
def lyD : Nat → D → Bool
  | _, .non => true
  | _, .bl _ => true
  | _, .int _ => true
  | _, .str s => PyData.strOk s
  | 0, _ => false
  | n + 1, .tup ds => lyDs n ds
  | n + 1, .lst ds => lyDs n ds
  | _, .fn _ => false
def lyDs : Nat → List D → Bool
  | _, [] => true
  | n, d :: ds => lyD n d && lyDs n ds
end
mutual
theorem lay_ly : ∀ {n : Nat} {d : D}, lyD n d = true → (toP d).canLay0 = true ∧ (toP d).depth ≤ n + 1 ∧ plain d = true
  | n, .non, _ => ⟨rfl, by show PyData.depth .none ≤ _; simp [PyData.depth], rfl⟩
  | n, .bl b, _ => ⟨rfl, by show PyData.depth (.bool b) ≤ _; simp [PyData.depth], rfl⟩
  | n, .int i, _ => ⟨rfl, by show PyData.depth (.int i) ≤ _; simp [PyData.depth], rfl⟩
  | n, .str i, h => ⟨by
    have h' : PyData.strOk i = true := by cases n <;> simpa [lyD] using h
    show PyData.canLay0 (.str i) = true
    simp [PyData.canLay0, h'], by show PyData.depth (.str i) ≤ _; simp [PyData.depth], rfl⟩
  | n + 1, .tup ds, h => by
    obtain ⟨h1, h2, h3⟩ := lays_ly (n := n) (ds := ds) (by simpa [lyD] using h)
    refine ⟨by show PyData.canLay0 (.tuple _) = true; simp [PyData.canLay0, h1], ?_, by simp [plain, h3]⟩
    show PyData.depth (.tuple _) ≤ _
    simp only [PyData.depth]; omega
  | n + 1, .lst ds, h => by
    obtain ⟨h1, h2, h3⟩ := lays_ly (n := n) (ds := ds) (by simpa [lyD] using h)
    refine ⟨by show PyData.canLay0 (.list _) = true; simp [PyData.canLay0, h1], ?_, by simp [plain, h3]⟩
    show PyData.depth (.list _) ≤ _
    simp only [PyData.depth]; omega
  | n, .fn _, h => by cases n <;> simp [lyD] at h
  | 0, .tup _, h => by simp [lyD] at h
  | 0, .lst _, h => by simp [lyD] at h
theorem lays_ly : ∀ {n : Nat} {ds : List D}, lyDs n ds = true → PyData.canLayAll0 (toPs ds) = true ∧ PyData.depthAll (toPs ds) ≤ n + 1 ∧ plains ds = true
  | n, [], _ => ⟨rfl, by simp [toPs, PyData.depthAll], rfl⟩
  | n, d :: ds, h => by
    rw [lyDs, Bool.and_eq_true] at h
    obtain ⟨a1, a2, a3⟩ := lay_ly (n := n) h.1
    obtain ⟨b1, b2, b3⟩ := lays_ly (n := n) h.2
    refine ⟨by simp [toPs, PyData.canLayAll0, a1, b1], ?_, by simp [plains, a3, b3]⟩
    simp only [toPs, PyData.depthAll]
    omega
end
theorem okD_ly {n : Nat} {d : D} (h : lyD n d = true) (hn : n ≤ 60) : okD d := by
  obtain ⟨h1, h2, h3⟩ := lay_ly h
  refine ⟨?_, h3⟩
  unfold SeqAt.shaped
  rw [h1, decide_eq_true (by omega)]; rfl
theorem lyDs_map {n : Nat} {α : Type} (f : α → D) (h : ∀ a, lyD n (f a) = true) : ∀ l : List α, lyDs n (l.map f) = true
  | [] => by simp [lyDs]
  | a :: l => by rw [List.map_cons, lyDs, h, lyDs_map f h l]; rfl
theorem ly_nD {n : Nat} (q : Rat) : lyD (n + 1) (nD q) = true := by simp [nD, lyD, lyDs]
theorem ly_row {n : Nat} (qs : List Rat) : lyD (n + 2) (rowD qs) = true := by
  unfold rowD; rw [lyD]; exact lyDs_map _ (fun q => ly_nD q) qs
theorem ly_pair {n : Nat} (p : Rat × Rat) : lyD (n + 2) (pairD p) = true := by simp [pairD, lyD, lyDs, ly_nD]
theorem ly_tube {n : Nat} (t : List (Rat × Rat)) : lyD (n + 3) (tubeD t) = true := by
  unfold tubeD; rw [lyD]; exact lyDs_map _ (fun q => ly_pair q) t
@[simp] theorem deq_str (a b : Str) : deq (.str a) (.str b) = decide (a = b) := by
  show PyData.eqv (.str a) (.str b) = _
  simp only [PyData.eqv]
  rw [Bool.eq_iff_iff]; simp
theorem okD_str {a : Str} (h : PyData.strOk a = true) : okD (.str a) := okD_ly (n := 0) h (by decide)
@[simp] theorem okD_above : okD (.str "above") := okD_str (by decide +kernel)
@[simp] theorem okD_below : okD (.str "below") := okD_str (by decide +kernel)
@[simp] theorem okD_taut : okD (.str "taut") := okD_str (by decide +kernel)
@[simp] theorem okD_loose : okD (.str "loose") := okD_str (by decide +kernel)
@[simp] theorem okD_ring : okD (.str "ring") := okD_str (by decide +kernel)
@[simp] theorem okD_leveller : okD (.str "leveller") := okD_str (by decide +kernel)
@[simp] theorem okD_no_leveller : okD (.str "no leveller") := okD_str (by decide +kernel)
@[simp] theorem okD_not_taut : okD (.str "not taut") := okD_str (by decide +kernel)
@[simp] theorem okD_smooth : okD (.str "smooth") := okD_str (by decide +kernel)
@[simp] theorem okD_stair : okD (.str "stair") := okD_str (by decide +kernel)
@[simp] theorem okD_settled : okD (.str "settled") := okD_str (by decide +kernel)
@[simp] theorem okD_store : okD (.str "store") := okD_str (by decide +kernel)
@[simp] theorem okD_speeds : okD (.str "speeds") := okD_str (by decide +kernel)
@[simp] theorem okD_done : okD (.str "done") := okD_str (by decide +kernel)
@[simp] theorem deq_bl (a b : Bool) : deq (.bl a) (.bl b) = (a == b) := by
  show PyData.eqv (.bool a) (.bool b) = _
  simp only [PyData.eqv]
@[simp] theorem okD_bl (a : Bool) : okD (.bl a) := okD_ly (n := 0) (by simp [lyD]) (by decide)
@[simp] theorem deq_tup0 (d : D) (ds : List D) : deq (.tup (d :: ds)) (.tup []) = false := by
  show PyData.eqv (.tuple _) (.tuple _) = _
  simp [PyData.eqv, toPs, PyData.eqvAll]
@[simp ↓, simp] theorem o_i7 (s : Str) : isiD (.str s) .str = true := rfl
@[simp ↓, simp] theorem o_v5 (s : Str) : isVal (.str s) = true := rfl
@[simp ↓, simp] theorem o_v6 (s : Bool) : isVal (.bl s) = true := rfl
@[simp ↓, simp] theorem e_n6 (s : Str) : isNon (.val (.str s)) = false := rfl
@[simp ↓, simp] theorem e_n7 (q : Rat) : isNon (.val (nD q)) = false := rfl
@[simp ↓, simp] theorem e_n8 (q : List Rat) : isNon (.val (rowD q)) = false := rfl
end DL

/-! DP1 -/
set_option exponentiation.threshold 100
namespace DL
open PySem PySem.Spec PyProof.Rows L2 LC

/-! ## products, totals, sums -/
theorem b_multiplied : Body G_num 2 2 c_multiplied sp_multiplied := ⟨by
  rintro _ R ⟨p, q, rfl, hp, hq, _, h⟩
  refine ⟨rfl, by simp, ?_⟩
  show wpSs _ _ [vN p, vN q] _
  simp [c_multiplied, G_num]
  refine ⟨hp.nn hq, hp.dd hq, ⟨p.den_nz, q.den_nz⟩, ?_, by rw [mul_dd]; exact h⟩
  rw [Int.natAbs_mul]
  exact lt_4k (mul_2k hp.2 hq.2)⟩
theorem b_w_by : Body G_low 2 2 c_w_by sp_multiplied := ⟨by
  rintro _ R ⟨p, q, rfl, hp, hq, _, h⟩
  refine ⟨rfl, by simp, ?_⟩
  show wpSs _ _ [vN p, vN q] _
  simp [c_w_by, G_low]
  refine ⟨hp.nn hq, hp.dd hq, ⟨p.den_nz, q.den_nz⟩, ?_, by rw [mul_dd]; exact h⟩
  rw [Int.natAbs_mul]
  exact lt_4k (mul_2k hp.2 hq.2)⟩
/-- sums that may be reckoned -/
structure SumOk (xs : List Rat) : Prop where
  x : ∀ x ∈ xs, sm x
  s : ∀ k, k ≤ xs.length → sm (Sm xs k)
  l : xs.length ≤ 10000
theorem sL_inj (a b : List Rat) (h : sL a = sL b) : a = b := by injection h with h; injection h with h; exact map_nD_inj h
theorem exo1 {α : Type} {f g : α → Sl} (inj : ∀ a b, f a = f b → a = b) (dis : ∀ a b, f a = g b → False) {K : α → Prop} (a : α) : (∃ x, ([f a] = [f x] ∨ [f a] = [g x]) ∧ K x) = K a :=
  propext ⟨fun ⟨x, e, h⟩ => by
    rcases e with e | e
    · rw [inj a x (List.cons.inj e).1]; exact h
    · exact (dis _ _ (List.cons.inj e).1).elim, fun h => ⟨a, .inl rfl, h⟩⟩
theorem exo2 {α : Type} {f g : α → Sl} (inj : ∀ a b, g a = g b → a = b) (dis : ∀ a b, f a = g b → False) {K : α → Prop} (a : α) : (∃ x, ([g a] = [f x] ∨ [g a] = [g x]) ∧ K x) = K a :=
  propext ⟨fun ⟨x, e, h⟩ => by
    rcases e with e | e
    · exact (dis _ _ (List.cons.inj e).1.symm).elim
    · rw [inj a x (List.cons.inj e).1]; exact h, fun h => ⟨a, .inr rfl, h⟩⟩
theorem dis_RL (a b : List Rat) (h : vR a = sL b) : False := by injection h with h; cases h
def sp_total : Spec := fun ss R => ∃ xs : List Rat, (ss = [vR xs] ∨ ss = [sL xs]) ∧ SumOk xs ∧ R (.val (nD (sumL xs))) ss
@[simp ↓, simp] theorem total_eq (xs : List Rat) (R : Fd → List Sl → Prop) : sp_total [sL xs] R = (SumOk xs ∧ R (.val (nD (sumL xs))) [sL xs]) := exo2 sL_inj dis_RL xs
@[simp ↓, simp] theorem total_eqR (xs : List Rat) (R : Fd → List Sl → Prop) : sp_total [vR xs] R = (SumOk xs ∧ R (.val (nD (sumL xs))) [vR xs]) := exo1 vR_inj dis_RL xs
def G_total : Gam := { fn := [("added", sp_added)], cst := [("NOUGHT", nD 0)] }
theorem b_total : Body G_total 3 1 c_total sp_total := ⟨by
  rintro ss R ⟨q, e, ⟨h1, h2, hl⟩, hR⟩
  have turn : ∀ (i : Nat) (x : Rat), q[i]? = some x → sm (Sm q i) ∧ sm x ∧ Sm q (i + 1) = Sm q i + x := fun i x hx => ⟨h2 i (by have := (List.getElem?_eq_some_iff.mp hx).1; omega), h1 x (List.mem_of_getElem? hx), Sm_succ hx⟩
  have fin : Sm q q.length = sumL q := by unfold Sm; rw [List.take_length]
  rcases e with rfl | rfl
  · refine ⟨rfl, by simp, ?_⟩
    show wpSs _ _ [vR q, .non, .non] _
    simp [c_total, G_total, -o_ix]
    refine fr_rule ⟨q.map nD, []⟩ [vR q, vN 0, .non] (fun K hK => hK) rfl ?_
    refine for_map nD q (fun i ρ => ∃ s2, ρ = [vR q, vN (Sm q i), s2]) ⟨.non, rfl⟩ ?_ ?_
    · rintro i x ρ K hx ⟨s2, rfl⟩
      refine ⟨still_nil _, fun hK => ?_⟩
      obtain ⟨t1, t2, t3⟩ := turn i x hx
      simp [frStep_eq, G_total, t1, t2]
      rw [← t3]
      exact hK _ ⟨_, rfl⟩
    · rintro ρ ⟨s2, rfl⟩
      refine ⟨still_nil _, ?_⟩
      rw [fin]
      simp
      exact hR
  · refine ⟨rfl, ⟨.inr rfl, by simp⟩, ?_⟩
    show wpSs _ _ [sL q, .non, .non] _
    simp [c_total, G_total, -o_ix]
    refine fr_rule ⟨q.map nD, [(.slot 0, q.map nD)]⟩ [sL q, vN 0, .non] (fun K hK => hK) rfl ?_
    refine for_map nD q (fun i ρ => ∃ s2, ρ = [sL q, vN (Sm q i), s2]) ⟨.non, rfl⟩ ?_ ?_
    · rintro i x ρ K hx ⟨s2, rfl⟩
      refine ⟨fun z hz => by simp at hz; subst hz; rfl, fun hK => ?_⟩
      obtain ⟨t1, t2, t3⟩ := turn i x hx
      simp [frStep_eq, G_total, t1, t2]
      rw [← t3]
      exact hK _ ⟨_, rfl⟩
    · rintro ρ ⟨s2, rfl⟩
      refine ⟨fun z hz => by simp at hz; subst hz; rfl, ?_⟩
      rw [fin]
      simp
      exact hR⟩
/-- the row of steps, from f on -/
def rowF (f : Rat) (xs : List Rat) (k : Nat) : List Rat := (List.range (k + 1)).map fun i => f + Sm xs i
theorem rowF_succ (f : Rat) (xs : List Rat) (k : Nat) : rowF f xs (k + 1) = rowF f xs k ++ [f + Sm xs (k + 1)] := by
  unfold rowF; rw [List.range_succ, List.map_append]; rfl
theorem rowF_length (f : Rat) (xs : List Rat) (k : Nat) : (rowF f xs k).length = k + 1 := by simp [rowF]
theorem rowF_last (f : Rat) (xs : List Rat) (k : Nat) : atI (rowF f xs k) (-1) = some (f + Sm xs k) := by
  rw [atI_last _ (by intro z; have := rowF_length f xs k; rw [z] at this; simp at this), rowF_length]
  unfold rowF
  rw [List.getElem?_map]
  simp
theorem rowF_at {f : Rat} {xs : List Rat} {n k : Nat} (h : k ≤ n) : at0 (rowF f xs n) k = f + Sm xs k := by
  rw [at0_lt (by rw [rowF_length]; omega)]; simp [rowF]
abbrev sumsL (xs : List Rat) : List Rat := rowF 0 xs xs.length
def sp_sums_of : Spec := fun ss R => ∃ xs : List Rat, (ss = [vR xs] ∨ ss = [sL xs]) ∧ SumOk xs ∧ R (.val (rowD (sumsL xs))) ss
@[simp ↓, simp] theorem sums_of_eq (xs : List Rat) (R : Fd → List Sl → Prop) : sp_sums_of [vR xs] R = (SumOk xs ∧ R (.val (rowD (sumsL xs))) [vR xs]) := exo1 vR_inj dis_RL xs
@[simp ↓, simp] theorem sums_of_eqL (xs : List Rat) (R : Fd → List Sl → Prop) : sp_sums_of [sL xs] R = (SumOk xs ∧ R (.val (rowD (sumsL xs))) [sL xs]) := exo2 sL_inj dis_RL xs
def G_sums_of : Gam := { fn := [("added", sp_added)], cst := [("NOUGHT", nD 0)] }
theorem b_sums_of : Body G_sums_of 3 1 c_sums_of sp_sums_of := ⟨by
  rintro ss R ⟨q, e, ⟨h1, h2, hl⟩, hR⟩
  have turn : ∀ (i : Nat) (x : Rat), q[i]? = some x → sm (0 + Sm q i) ∧ sm x ∧ 0 + Sm q (i + 1) = 0 + Sm q i + x := fun i x hx => ⟨by rw [Rat.zero_add]; exact h2 i (by have := (List.getElem?_eq_some_iff.mp hx).1; omega), h1 x (List.mem_of_getElem? hx), by rw [Sm_succ hx]; grind⟩
  have e0 : (sL (rowF 0 q 0) : Sl) = .fd (.lst [nD 0]) := by
    show (.fd (.lst ((rowF 0 q 0).map nD)) : Sl) = _
    have : rowF 0 q 0 = [0] := by unfold rowF; simp [Sm_zero, Rat.add_zero]
    rw [this]; rfl
  have e1 : ∀ i, (rowF 0 q i).map nD ++ [nD (0 + Sm q (i + 1))] = (rowF 0 q (i + 1)).map nD := fun i => by rw [rowF_succ, List.map_append]; rfl
  rcases e with rfl | rfl
  · refine ⟨rfl, by simp, ?_⟩
    show wpSs _ _ [vR q, .non, .non] _
    simp [c_sums_of, G_sums_of, -o_ix]
    refine fr_rule ⟨q.map nD, []⟩ [vR q, sL (rowF 0 q 0), .non] (fun K hK => by rw [e0] at hK; exact hK) rfl ?_
    refine for_map nD q (fun i ρ => ∃ s2, ρ = [vR q, sL (rowF 0 q i), s2]) ⟨.non, rfl⟩ ?_ ?_
    · rintro i x ρ K hx ⟨s2, rfl⟩
      refine ⟨still_nil _, fun hK => ?_⟩
      obtain ⟨t1, t2, t3⟩ := turn i x hx
      simp [frStep_eq, G_sums_of, -o_ix]
      refine ix_map (f := nD) (xs := rowF 0 q i) (by simp) _ (rowF_last 0 q i) ?_
      simp [t1, t2, -o_ix]
      rw [← t3, e1]
      refine ⟨?_, hK _ ⟨_, rfl⟩⟩
      rw [rowF_length]
      have := (List.getElem?_eq_some_iff.mp hx).1
      omega
    · rintro ρ ⟨s2, rfl⟩
      refine ⟨still_nil _, ?_⟩
      simp
      exact hR
  · refine ⟨rfl, ⟨.inr rfl, by simp⟩, ?_⟩
    show wpSs _ _ [sL q, .non, .non] _
    simp [c_sums_of, G_sums_of, -o_ix]
    refine fr_rule ⟨q.map nD, [(.slot 0, q.map nD)]⟩ [sL q, sL (rowF 0 q 0), .non] (fun K hK => by rw [e0] at hK; exact hK) rfl ?_
    refine for_map nD q (fun i ρ => ∃ s2, ρ = [sL q, sL (rowF 0 q i), s2]) ⟨.non, rfl⟩ ?_ ?_
    · rintro i x ρ K hx ⟨s2, rfl⟩
      refine ⟨fun z hz => by simp at hz; subst hz; rfl, fun hK => ?_⟩
      obtain ⟨t1, t2, t3⟩ := turn i x hx
      simp [frStep_eq, G_sums_of, -o_ix]
      refine ix_map (f := nD) (xs := rowF 0 q i) (by simp) _ (rowF_last 0 q i) ?_
      simp [t1, t2, -o_ix]
      rw [← t3, e1]
      refine ⟨?_, hK _ ⟨_, rfl⟩⟩
      rw [rowF_length]
      have := (List.getElem?_eq_some_iff.mp hx).1
      omega
    · rintro ρ ⟨s2, rfl⟩
      refine ⟨fun z hz => by simp at hz; subst hz; rfl, ?_⟩
      simp
      exact hR⟩
def sp_row_of : Spec := fun ss R => ∃ (f : Rat) (xs : List Rat), ss = [vN f, vR xs] ∧ (1 ≤ xs.length ∧ xs.length ≤ 24 ∧ (∀ x ∈ xs, sm x) ∧ ∀ k, k ≤ xs.length → sm (f + Sm xs k)) ∧ R (.val (rowD (rowF f xs xs.length))) ss
@[simp ↓, simp] theorem row_of_eq (f : Rat) (xs : List Rat) (R : Fd → List Sl → Prop) : sp_row_of [vN f, vR xs] R = ((1 ≤ xs.length ∧ xs.length ≤ 24 ∧ (∀ x ∈ xs, sm x) ∧ ∀ k, k ≤ xs.length → sm (f + Sm xs k)) ∧ R (.val (rowD (rowF f xs xs.length))) [vN f, vR xs]) := ex2 vN_inj vR_inj f xs
def G_row_of : Gam := { fn := [("added", sp_added), ("are_numbers_tubes", sp_are_numbers), ("is_number", sp_is_number)], cst := [("MOST_PLACES", .int 25)] }
theorem b_row_of : Body G_row_of 4 2 c_row_of sp_row_of := ⟨by
  rintro _ R ⟨f, q, rfl, ⟨l1, l2, h1, h2⟩, hR⟩
  refine ⟨rfl, by simp, ?_⟩
  show wpSs _ _ [vN f, vR q, .non, .non] _
  simp [c_row_of, G_row_of, -o_ix]
  refine ⟨⟨by omega, by omega, by omega⟩, ?_⟩
  have e0 : (sL (rowF f q 0) : Sl) = .fd (.lst [nD f]) := by
    show (.fd (.lst ((rowF f q 0).map nD)) : Sl) = _
    have : rowF f q 0 = [f] := by unfold rowF; simp [Sm_zero, Rat.add_zero]
    rw [this]; rfl
  have e1 : ∀ i, (rowF f q i).map nD ++ [nD (f + Sm q (i + 1))] = (rowF f q (i + 1)).map nD := fun i => by rw [rowF_succ, List.map_append]; rfl
  refine fr_rule ⟨q.map nD, []⟩ [vN f, vR q, sL (rowF f q 0), .non] (fun K hK => by rw [e0] at hK; exact hK) rfl ?_
  refine for_map nD q (fun i ρ => ∃ s2, ρ = [vN f, vR q, sL (rowF f q i), s2]) ⟨.non, rfl⟩ ?_ ?_
  · rintro i x ρ K hx ⟨s2, rfl⟩
    refine ⟨still_nil _, fun hK => ?_⟩
    have hi := (List.getElem?_eq_some_iff.mp hx).1
    have t1 := h2 i (by omega)
    have t2 := h1 x (List.mem_of_getElem? hx)
    have t3 : f + Sm q (i + 1) = f + Sm q i + x := by rw [Sm_succ hx]; grind
    simp [frStep_eq, G_row_of, -o_ix]
    refine ix_map (f := nD) (xs := rowF f q i) (by simp) _ (rowF_last f q i) ?_
    simp [t1, t2, -o_ix]
    rw [← t3, e1]
    refine ⟨?_, hK _ ⟨_, rfl⟩⟩
    rw [rowF_length]
    omega
  · rintro ρ ⟨s2, rfl⟩
    refine ⟨still_nil _, ?_⟩
    simp
    exact hR⟩
end DL

/-! DP2 -/
set_option exponentiation.threshold 100
namespace DL
open PySem PySem.Spec PyProof.Rows L2 LC

/-! ## measures -/
structure MP where
  below : Bool
  pt : Rat
  wt : Rat
def sideW (b : Bool) : Str := if b then "below" else "above"
def mpD (m : MP) : DL.D := .tup [.str (sideW m.below), nD m.pt, nD m.wt]
abbrev vM (m : MP) : Sl := .fd (.val (mpD m))
def msD (ms : List MP) : DL.D := .tup (ms.map mpD)
abbrev vMs (ms : List MP) : Sl := .fd (.val (msD ms))
theorem mpD_inj {p q : MP} (h : mpD p = mpD q) : p = q := by
  obtain ⟨a, b, c⟩ := p
  obtain ⟨a', b', c'⟩ := q
  unfold mpD at h
  injection h with h
  have h1 := List.cons.inj h
  have h2 := List.cons.inj h1.2
  have h3 := List.cons.inj h2.2
  have e1 : sideW a = sideW a' := by have := h1.1; injection this
  have e2 := nD_inj.mp h2.1
  have e3 := nD_inj.mp h3.1
  simp only at e2 e3
  have e1 : a = a' := by
    cases a <;> cases a' <;> first | rfl | (exact absurd e1 (by decide))
  rw [e1, e2, e3]
theorem vM_inj (a b : MP) (h : vM a = vM b) : a = b := by injection h with h; injection h with h; exact mpD_inj h
theorem vMs_inj (a b : List MP) (h : vMs a = vMs b) : a = b := by
  injection h with h; injection h with h; unfold msD at h; injection h with h
  exact map_inj (fun a b e => mpD_inj e) h
@[simp ↓ high, simp high] theorem isi_M (p : MP) (t : Ty) (Q : Bool → Prop) : wpIsi (.val (mpD p)) t Q = (True ∧ Q (isiD (mpD p) t)) := by simp [wpIsi, mpD, isVal]
@[simp ↓ high, simp high] theorem isi_Ms (p : List MP) (t : Ty) (Q : Bool → Prop) : wpIsi (.val (msD p)) t Q = (True ∧ Q (isiD (msD p) t)) := by simp [wpIsi, msD, isVal]
@[simp ↓ high, simp high] theorem isiD_M (p : MP) : isiD (mpD p) .tuple = true := rfl
@[simp ↓ high, simp high] theorem isiD_Ms (p : List MP) : isiD (msD p) .tuple = true := rfl
@[simp ↓ high, simp high] theorem seq_M (ρ : Env) (t : MP) : seqOf ρ (.val (mpD t)) = some [.str (sideW t.below), nD t.pt, nD t.wt] := rfl
@[simp ↓ high, simp high] theorem seq_Ms (ρ : Env) (t : List MP) : seqOf ρ (.val (msD t)) = some (t.map mpD) := rfl
@[simp ↓ high, simp high] theorem it_Ms (ρ : Env) (t : List MP) (K : Items → Env → Prop) : wpSeq ρ (.val (msD t)) K = K ⟨t.map mpD, []⟩ ρ := rfl
@[simp ↓ high, simp high] theorem ix_M0 (ρ : Env) (t : MP) (Q : QE) : wpIx ρ (.val (mpD t)) (.val (.int 0)) Q = Q (.val (.str (sideW t.below))) ρ := by
  apply propext
  exact ⟨fun ⟨d, h, q⟩ => by cases h; exact q, fun h => ⟨_, rfl, h⟩⟩
@[simp ↓ high, simp high] theorem ix_M1 (ρ : Env) (t : MP) (Q : QE) : wpIx ρ (.val (mpD t)) (.val (.int 1)) Q = Q (.val (nD t.pt)) ρ := by
  apply propext
  exact ⟨fun ⟨d, h, q⟩ => by cases h; exact q, fun h => ⟨_, rfl, h⟩⟩
@[simp ↓ high, simp high] theorem ix_M2 (ρ : Env) (t : MP) (Q : QE) : wpIx ρ (.val (mpD t)) (.val (.int 2)) Q = Q (.val (nD t.wt)) ρ := by
  apply propext
  exact ⟨fun ⟨d, h, q⟩ => by cases h; exact q, fun h => ⟨_, rfl, h⟩⟩
def overW (m : MP) (x : Rat) : Rat := if m.below then m.pt - x else x - m.pt
def partW (m : MP) (x : Rat) : Rat := if overW m x < 0 then 0 else m.wt * overW m x
def sp_part_worth : Spec := fun ss R => ∃ (m : MP) (x : Rat), ss = [vM m, vN x] ∧ (sm m.pt ∧ sm m.wt ∧ sm x ∧ sm (x - m.pt) ∧ sm (m.pt - x)) ∧ R (.val (nD (partW m x))) ss
@[simp ↓, simp] theorem part_worth_eq (m : MP) (x : Rat) (R : Fd → List Sl → Prop) : sp_part_worth [vM m, vN x] R = ((sm m.pt ∧ sm m.wt ∧ sm x ∧ sm (x - m.pt) ∧ sm (m.pt - x)) ∧ R (.val (nD (partW m x))) [vM m, vN x]) := ex2 vM_inj vN_inj m x
def G_part_worth : Gam := { fn := [("multiplied", sp_multiplied), ("is_less", sp_is_less), ("taken", sp_taken)], cst := [("NOUGHT", nD 0)] }
theorem b_part_worth : Body G_part_worth 6 2 c_part_worth sp_part_worth := ⟨by
  rintro _ R ⟨⟨b, p, w⟩, x, rfl, ⟨h1, h2, h3, h4, h5⟩, hR⟩
  refine ⟨rfl, by simp, ?_⟩
  show wpSs _ _ [.fd (.val (.tup [.str (sideW b), nD p, nD w])), vN x, .non, .non, .non, .non] _
  simp only at h1 h2 h4 h5
  simp [c_part_worth, G_part_worth, h1, h3, h4, h5, -o_ix]
  have hR' : R (.val (nD (partW ⟨b, p, w⟩ x))) [.fd (.val (.tup [.str (sideW b), nD p, nD w])), vN x] := hR
  unfold partW overW at hR'
  cases b
  · have : ¬ (sideW false = "below") := by decide
    simp at hR'
    have hs : okD (.str (sideW false)) := okD_above
    simp [this, hs, h4, sm0]
    by_cases c : x - p < 0
    · simp [c] at hR' ⊢
      exact hR'
    · simp [c] at hR' ⊢
      exact ⟨h2, hR'⟩
  · have : sideW true = "below" := rfl
    simp at hR'
    simp [this, h1, h3, h5, sm0]
    by_cases c : p - x < 0
    · simp [c] at hR' ⊢
      exact hR'
    · simp [c] at hR' ⊢
      exact ⟨h2, hR'⟩⟩
def sp_is_part : Spec := fun ss R => ∃ m : MP, ss = [vM m] ∧ (sm m.wt ∧ 0 < m.wt) ∧ R (.val (.bl true)) ss
@[simp ↓, simp] theorem is_part_eq (m : MP) (R : Fd → List Sl → Prop) : sp_is_part [vM m] R = ((sm m.wt ∧ 0 < m.wt) ∧ R (.val (.bl true)) [vM m]) := ex1 vM_inj m
def sidesD : DL.D := .tup [.str "above", .str "below"]
def G_is_part : Gam := { fn := [("is_number", sp_is_number), ("is_less", sp_is_less)], cst := [("NOUGHT", nD 0), ("SIDES", .tup [.str "above", .str "below"])] }
theorem b_is_part : Body G_is_part 1 1 c_is_part sp_is_part := ⟨by
  rintro _ R ⟨m, rfl, ⟨h1, h2⟩, hR⟩
  refine ⟨rfl, by simp, ?_⟩
  show wpSs _ _ [vM m] _
  simp [c_is_part, G_is_part]
  refine ⟨["above", "below"], rfl, ?_⟩
  have : decide (sideW m.below ∈ (["above", "below"] : List Str)) = true := by cases m.below <;> decide
  rw [this]
  simp [h1, h2, sm0]
  exact hR⟩
def MsOk (ms : List MP) : Prop := 1 ≤ ms.length ∧ ms.length ≤ 6 ∧ ∀ m ∈ ms, sm m.wt ∧ 0 < m.wt
def sp_is_measure : Spec := fun ss R => ∃ ms : List MP, ss = [vMs ms] ∧ MsOk ms ∧ R (.val (.bl true)) ss
@[simp ↓, simp] theorem is_measure_eq (m : List MP) (R : Fd → List Sl → Prop) : sp_is_measure [vMs m] R = (MsOk m ∧ R (.val (.bl true)) [vMs m]) := ex1 vMs_inj m
def G_is_measure : Gam := { fn := [("is_part_measures", sp_is_part)], cst := [("MOST_PARTS", .int 6)] }
theorem b_is_measure : Body G_is_measure 2 1 c_is_measure sp_is_measure := ⟨by
  rintro _ R ⟨t, rfl, ⟨h1, h2, h3⟩, h⟩
  refine ⟨rfl, by simp, ?_⟩
  show wpSs _ _ [vMs t, .non] _
  have e1 : (1 : Int) ≤ (t.length : Int) := by omega
  have e2 : (t.length : Int) ≤ 6 := by omega
  simp [c_is_measure, G_is_measure, e1, e2]
  refine lc_all [vMs t, .non] [] mpD (fun _ => .bl true) t (fun K hK => by simp; exact hK) (by omega) (still_nil _) (fun x hx K hK => ?_) ?_
  · simp [lcStep_eq] at hK ⊢
    exact ⟨h3 x hx, hK⟩
  · simp
    refine all_true t _ ?_
    simp [all_tt]
    exact h⟩
def sp_check_measure : Spec := fun ss R => ∃ ms : List MP, ss = [vMs ms] ∧ MsOk ms ∧ R (.val .non) ss
@[simp ↓, simp] theorem check_measure_eq (m : List MP) (R : Fd → List Sl → Prop) : sp_check_measure [vMs m] R = (MsOk m ∧ R (.val .non) [vMs m]) := ex1 vMs_inj m
def G_check_measure : Gam := { fn := [("is_measure", sp_is_measure)] }
theorem b_check_measure : Body G_check_measure 1 1 c_check_measure sp_check_measure := ⟨by
  rintro _ R ⟨t, rfl, h1, h⟩
  refine ⟨rfl, by simp, ?_⟩
  show wpSs _ _ [vMs t] _
  simp [c_check_measure, G_check_measure]
  exact ⟨h1, h⟩⟩
def stepW (ms : List MP) (x : Rat) : Rat := sumL (ms.map fun m => partW m x)
def worthL (ms : List MP) (xs : List Rat) : Rat := sumL (xs.map (stepW ms))
structure WOk (ms : List MP) (xs : List Rat) : Prop where
  p : ∀ m ∈ ms, ∀ x ∈ xs, sm m.pt ∧ sm m.wt ∧ sm x ∧ sm (x - m.pt) ∧ sm (m.pt - x)
  s : ∀ x ∈ xs, SumOk (ms.map fun m => partW m x)
  t : SumOk (xs.map (stepW ms))
def sp_steps_worth : Spec := fun ss R => ∃ (ms : List MP) (xs : List Rat), ss = [vMs ms, vR xs] ∧ WOk ms xs ∧ R (.val (nD (worthL ms xs))) ss
@[simp ↓, simp] theorem steps_worth_eq (m : List MP) (x : List Rat) (R : Fd → List Sl → Prop) : sp_steps_worth [vMs m, vR x] R = (WOk m x ∧ R (.val (nD (worthL m x))) [vMs m, vR x]) := ex2 vMs_inj vR_inj m x
def G_steps_worth : Gam := { fn := [("added", sp_added), ("total", sp_total), ("part_worth", sp_part_worth)], cst := [("NOUGHT", nD 0)] }
theorem Sm_map {f : Rat → Rat} {xs : List Rat} {i : Nat} {x : Rat} (h : xs[i]? = some x) : Sm (xs.map f) (i + 1) = Sm (xs.map f) i + f x := Sm_succ (by rw [List.getElem?_map, h]; rfl)
theorem b_steps_worth : Body G_steps_worth 5 2 c_steps_worth sp_steps_worth := ⟨by
  rintro _ R ⟨ms, xs, rfl, W, hR⟩
  refine ⟨rfl, by simp, ?_⟩
  show wpSs _ _ [vMs ms, vR xs, .non, .non, .non] _
  simp [c_steps_worth, G_steps_worth, -o_ix]
  refine fr_rule ⟨xs.map nD, []⟩ [vMs ms, vR xs, vN 0, .non, .non] (fun K hK => hK) rfl ?_
  refine for_map nD xs (fun i ρ => ∃ s3, ρ = [vMs ms, vR xs, vN (Sm (xs.map (stepW ms)) i), s3, .non]) ⟨.non, rfl⟩ ?_ ?_
  · rintro i x ρ K hx ⟨s3, rfl⟩
    refine ⟨still_nil _, fun hK => ?_⟩
    have hm := List.mem_of_getElem? hx
    have hi := (List.getElem?_eq_some_iff.mp hx).1
    have S := W.s x hm
    simp [frStep_eq, G_steps_worth, -o_ix]
    refine lc_all [vMs ms, vR xs, vN (Sm (xs.map (stepW ms)) i), vN x, .non] [] mpD (fun m => nD (partW m x)) ms (fun K hK => by simp; exact hK) (by have := S.l; rw [List.length_map] at this; omega) (still_nil _) (fun m hm' K hK => ?_) ?_
    · obtain ⟨p1, p2, p3, p4, p5⟩ := W.p m hm' x hm
      simp [lcStep_eq] at hK ⊢
      exact ⟨⟨p1, p2, p3, p4, p5⟩, hK⟩
    · have e : (.fd (.lst (ms.map fun m => nD (partW m x))) : Sl) = sL (ms.map fun m => partW m x) := by
        show _ = Sl.fd (.lst ((ms.map fun m => partW m x).map nD))
        rw [List.map_map]; rfl
      simp [-List.map_map]
      rw [e]
      simp
      have t1 := W.t.s i (by rw [List.length_map]; omega)
      have t2 := W.t.x (stepW ms x) (List.mem_map.mpr ⟨x, hm, rfl⟩)
      refine ⟨S, t1, t2, ?_⟩
      have t3 := Sm_map (f := stepW ms) hx
      show K [vMs ms, vR xs, vN (Sm (xs.map (stepW ms)) i + stepW ms x), vN x, .non]
      rw [← t3]
      exact hK _ ⟨_, rfl⟩
  · rintro ρ ⟨s3, rfl⟩
    refine ⟨still_nil _, ?_⟩
    have fin : Sm (xs.map (stepW ms)) xs.length = worthL ms xs := by unfold Sm worthL; rw [List.take_of_length_le (by simp)]
    rw [fin]
    simp
    exact hR⟩
def sp_worth : Spec := fun ss R => ∃ (ms : List MP) (r : List Rat), ss = [vMs ms, vR r] ∧ (MsOk ms ∧ 2 ≤ r.length ∧ r.length ≤ 25 ∧ (∀ q ∈ r, sm q) ∧ WOk ms (stepsL r)) ∧ R (.val (nD (worthL ms (stepsL r)))) ss
@[simp ↓, simp] theorem worth_eq (m : List MP) (r : List Rat) (R : Fd → List Sl → Prop) : sp_worth [vMs m, vR r] R = ((MsOk m ∧ 2 ≤ r.length ∧ r.length ≤ 25 ∧ (∀ q ∈ r, sm q) ∧ WOk m (stepsL r)) ∧ R (.val (nD (worthL m (stepsL r)))) [vMs m, vR r]) := ex2 vMs_inj vR_inj m r
def G_worth : Gam := { fn := [("steps_worth", sp_steps_worth), ("steps", sp_steps), ("check_plain_row", sp_check_plain_row), ("check_measure", sp_check_measure)] }
theorem b_worth : Body G_worth 2 2 c_worth sp_worth := ⟨by
  rintro _ R ⟨ms, r, rfl, ⟨h1, h2, h3, h4, h5⟩, hR⟩
  refine ⟨rfl, by simp, ?_⟩
  show wpSs _ _ [vMs ms, vR r] _
  simp [c_worth, G_worth, -o_ix]
  exact ⟨h1, ⟨h2, h3⟩, ⟨h2, h3, h4⟩, h5, hR⟩⟩
end DL

/-! DP3 -/
set_option exponentiation.threshold 100
namespace DL
open PySem PySem.Spec PyProof.Rows L2 LC

/-! ## what a measure is worth: sizes, and that levelling makes it no more -/
theorem bd_mul {D E M N : Nat} {p q : Rat} (h : bd D M p) (g : bd E N q) : bd (D * E) (M * N) (p * q) := by
  obtain ⟨⟨z, hz⟩, h1, h2⟩ := h
  obtain ⟨⟨y, hy⟩, g1, g2⟩ := g
  have a0 : (0 : Rat) ≤ (M : Rat) := by have := cast_le (Nat.zero_le M); simpa using this
  have b0 : (0 : Rat) ≤ (N : Rat) := by have := cast_le (Nat.zero_le N); simpa using this
  have e : ((M * N : Nat) : Rat) = (M : Rat) * N := by simp
  have k1 := Rat.mul_nonneg (show 0 ≤ (M : Rat) - p by grind) (show 0 ≤ (N : Rat) - q by grind)
  have k2 := Rat.mul_nonneg (show 0 ≤ (M : Rat) + p by grind) (show 0 ≤ (N : Rat) + q by grind)
  have k3 := Rat.mul_nonneg (show 0 ≤ (M : Rat) - p by grind) (show 0 ≤ (N : Rat) + q by grind)
  have k4 := Rat.mul_nonneg (show 0 ≤ (M : Rat) + p by grind) (show 0 ≤ (N : Rat) - q by grind)
  refine ⟨⟨z * y, ?_⟩, ?_, ?_⟩
  · have : ((D * E : Nat) : Rat) = (D : Rat) * E := by simp
    rw [this, Rat.intCast_mul, ← hz, ← hy]; grind
  · rw [e]; grind
  · rw [e]; grind
theorem sumOk_of {D M : Nat} {xs : List Rat} (Z : SzOk D (24 * M)) (h : ∀ x ∈ xs, bd D M x) (hl : xs.length ≤ 24) : SumOk xs :=
  ⟨fun x hx => Z.sm (h x hx) (by omega), fun k _ => Z.sm (bd_take h hl k) (by omega), by omega⟩
structure MBd (E N : Nat) (m : MP) : Prop where
  p : bd E N m.pt
  w : bd E N m.wt
  w0 : 0 < m.wt
theorem bd_part {D M E N : Nat} {m : MP} {x : Rat} (B : MBd E N m) (d : E ∣ D) (hx : bd D M x) : bd (E * D) (N * (M + N)) (partW m x) := by
  unfold partW
  split
  · exact bd_zero
  · refine bd_mul B.w ?_
    unfold overW
    split
    · exact bd_le (bd_sub (bd_dvd B.p d) hx) (by omega)
    · exact bd_sub hx (bd_dvd B.p d)
theorem wOk_of {D M E N : Nat} {ms : List MP} {xs : List Rat} (hm : ∀ m ∈ ms, MBd E N m) (d : E ∣ D) (e0 : 0 < E) (hx : ∀ x ∈ xs, bd D M x) (l1 : ms.length ≤ 24) (l2 : xs.length ≤ 24) (n1 : 1 ≤ N) (Z : SzOk (E * D) (24 * (24 * (N * (M + N))))) : WOk ms xs := by
  have hp : M + N ≤ N * (M + N) := Nat.le_mul_of_pos_left _ n1
  have sE : ∀ {q K}, bd D K q → K ≤ M + N → sm q := fun {q K} h hK => Z.sm (bd_dvd h ⟨E, Nat.mul_comm _ _⟩) (by omega)
  refine ⟨fun m h x hx' => ?_, fun x hx' => ?_, ?_⟩
  · have B := hm m h
    have bx := hx x hx'
    have bp := bd_dvd B.p d
    exact ⟨sE bp (by omega), sE (bd_dvd B.w d) (by omega), sE bx (by omega), sE (bd_sub bx bp) (by omega), sE (bd_sub bp bx) (by omega)⟩
  · refine sumOk_of (D := E * D) (M := N * (M + N)) ⟨Z.d0, Z.dd, Nat.lt_of_le_of_lt (Nat.mul_le_mul_right _ (Nat.mul_le_mul_left _ (by omega))) Z.mm⟩ (fun y hy => ?_) (by simpa using l1)
    obtain ⟨m, h, rfl⟩ := List.mem_map.mp hy
    exact bd_part (hm m h) d (hx x hx')
  · refine sumOk_of (D := E * D) (M := 24 * (N * (M + N))) Z (fun y hy => ?_) (by simpa using l2)
    obtain ⟨x, hx', rfl⟩ := List.mem_map.mp hy
    have := bd_sum (xs := ms.map fun m => partW m x) (D := E * D) (N := N * (M + N)) fun y hy => by
      obtain ⟨m, h, rfl⟩ := List.mem_map.mp hy
      exact bd_part (hm m h) d (hx x hx')
    refine bd_le this (Nat.mul_le_mul_right _ ?_)
    simpa using l1
theorem sumL_mul {α : Type} (c : Rat) (f : α → Rat) : ∀ xs : List α, sumL (xs.map fun x => c * f x) = c * sumL (xs.map f)
  | [] => by simp only [List.map_nil, sumL]; grind
  | x :: xs => by simp only [List.map_cons, sumL, sumL_mul c f xs]; grind
theorem worth_swap (ms : List MP) : ∀ xs : List Rat, worthL ms xs = sumL (ms.map fun m => sumL (xs.map (partW m)))
  | [] => by
    unfold worthL
    simp only [List.map_nil, sumL]
    induction ms with
    | nil => rfl
    | cons m ms ih => simp only [List.map_cons, sumL, ← ih]; grind
  | x :: xs => by
    have ih := worth_swap ms xs
    unfold worthL at ih ⊢
    simp only [List.map_cons, sumL, ih]
    show stepW ms x + _ = _
    unfold stepW
    exact sumL_add (fun m => partW m x) (fun m => sumL (xs.map (partW m))) ms
theorem partW_above (p w x : Rat) : partW ⟨false, p, w⟩ x = w * hinge p x := by
  unfold partW overW hinge
  simp only [Bool.false_eq_true, if_false]
  by_cases c : p < x
  · rw [if_neg (by grind), if_pos c]
  · rw [if_neg c]
    by_cases c2 : x - p < 0
    · rw [if_pos c2]; grind
    · rw [if_neg c2]
      have : x - p = 0 := by grind
      rw [this]
theorem partW_below (p w x : Rat) : partW ⟨true, p, w⟩ x = w * (hinge p x + (p - x)) := by
  unfold partW overW hinge
  simp only [if_true]
  by_cases c : p < x
  · rw [if_pos (by grind), if_pos c]; grind
  · rw [if_neg (by grind), if_neg c]; grind
theorem sumL_const (p : Rat) : ∀ xs : List Rat, sumL (xs.map fun x => p - x) = (xs.length : Rat) * p - sumL xs
  | [] => by simp only [List.map_nil, sumL, List.length_nil]; simp; grind
  | x :: xs => by
    simp only [List.map_cons, sumL, List.length_cons, sumL_const p xs]
    have : ((xs.length + 1 : Nat) : Rat) = (xs.length : Rat) + 1 := by simp
    rw [this]; grind
theorem worth_part {m : MP} (w0 : 0 ≤ m.wt) {a g : List Rat} (L : Led a g) (hl : g.length = a.length) : sumL (g.map (partW m)) ≤ sumL (a.map (partW m)) := by
  obtain ⟨b, p, w⟩ := m
  have h := L.1 p
  unfold hinges at h
  cases b
  · have e : ∀ xs : List Rat, sumL (xs.map (partW ⟨false, p, w⟩)) = w * sumL (xs.map (hinge p)) := fun xs => by
      rw [← sumL_mul]; congr 1; exact List.map_congr_left fun x _ => partW_above p w x
    rw [e, e]
    exact Rat.mul_le_mul_of_nonneg_left h w0
  · have e : ∀ xs : List Rat, sumL (xs.map (partW ⟨true, p, w⟩)) = w * (sumL (xs.map (hinge p)) + ((xs.length : Rat) * p - sumL xs)) := fun xs => by
      rw [← sumL_const, sumL_add, ← sumL_mul]; congr 1; exact List.map_congr_left fun x _ => partW_below p w x
    rw [e, e, hl, L.2]
    refine Rat.mul_le_mul_of_nonneg_left ?_ w0
    grind
/-- levelling makes no measure more -/
theorem worth_led {ms : List MP} (hw : ∀ m ∈ ms, 0 < m.wt) {a g : List Rat} (L : Led a g) (hl : g.length = a.length) : worthL ms g ≤ worthL ms a := by
  rw [worth_swap, worth_swap]
  exact sumL_le fun m hm => worth_part (Rat.le_of_lt (hw m hm)) L hl
/-- from a row of a tied tube to its cord -/
theorem led_row {lo hi : Nat → Rat} {n : Nat} {c r : List Rat} (T : Taut lo hi (n + 1) (at0 c)) (h : ∀ k, k ≤ n + 1 → lo k ≤ at0 r k ∧ at0 r k ≤ hi k) (t0 : lo 0 = hi 0) (tn : lo (n + 1) = hi (n + 1)) (lc : c.length = n + 2) (lr : r.length = n + 2) : Led (stepsL r) (stepsL c) := by
  have i0 := T.inn 0 (by omega)
  have i1 := T.inn (n + 1) (by omega)
  have j0 := h 0 (by omega)
  have j1 := h (n + 1) (by omega)
  have e0 : at0 r 0 = at0 c 0 := by grind
  have en : at0 r (n + 1) = at0 c (n + 1) := by grind
  have l1 := steps_n (n := n + 1) lr
  have l2 := steps_n (n := n + 1) lc
  have hz : ∀ (t : Rat) (xs : List Rat), hinges t xs = sumTo (fun k => hinge t (at0 xs k)) xs.length := fun t xs => by
    unfold hinges
    have e : xs.map (hinge t) = (List.range xs.length).map fun k => hinge t (at0 xs k) := by
      conv => lhs; rw [← map_range_at0 xs]
      rw [List.map_map]; rfl
    rw [e, sumL_range]
  refine ⟨fun t => ?_, ?_⟩
  · rw [hz, hz, l1, l2]
    have := row_hinge T h e0 en t
    rw [sum_congr (f := fun k => hinge t (at0 (stepsL c) k)) (g := fun k => hinge t (at0 c (k + 1) - at0 c k)) fun k hk => by show hinge t _ = hinge t _; rw [stepsL_at (by omega)],
      sum_congr (f := fun k => hinge t (at0 (stepsL r) k)) (g := fun k => hinge t (at0 r (k + 1) - at0 r k)) fun k hk => by show hinge t _ = hinge t _; rw [stepsL_at (by omega)]]
    exact this
  · rw [sumL_at0, sumL_at0, l1, l2, sum_congr (f := at0 (stepsL c)) (g := fun k => at0 c (k + 1) - at0 c k) fun k hk => stepsL_at (by omega), sum_congr (f := at0 (stepsL r)) (g := fun k => at0 r (k + 1) - at0 r k) fun k hk => stepsL_at (by omega), sum_steps, sum_steps, e0, en]
end DL

/-! DP4 -/
set_option exponentiation.threshold 100
namespace DL
open PySem PySem.Spec PyProof.Rows L2 LC

/-! ## the checker: rows, bends -/
noncomputable def yes (p : Prop) : Bool := @decide p (Classical.propDecidable p)
theorem yes_iff {p : Prop} : yes p = true ↔ p := by unfold yes; exact @decide_eq_true_iff p (Classical.propDecidable p)
theorem yes_of {p : Prop} {b : Bool} (h : b = true ↔ p) : b = yes p := by rw [Bool.eq_iff_iff, yes_iff]; exact h
def sp_is_within : Spec := fun ss R => ∃ (p : Rat × Rat) (x : Rat), ss = [vP p, vN x] ∧ (sm p.1 ∧ sm p.2 ∧ sm x) ∧ R (.val (.bl (decide (p.1 ≤ x) && decide (x ≤ p.2)))) ss
@[simp ↓, simp] theorem is_within_eq (p : Rat × Rat) (x : Rat) (R : Fd → List Sl → Prop) : sp_is_within [vP p, vN x] R = ((sm p.1 ∧ sm p.2 ∧ sm x) ∧ R (.val (.bl (decide (p.1 ≤ x) && decide (x ≤ p.2)))) [vP p, vN x]) := ex2 vP_inj vN_inj p x
def G_is_within : Gam := { fn := [("is_less", sp_is_less)] }
theorem not_lt_b (a b : Rat) : (!decide (a < b)) = decide (b ≤ a) := by
  by_cases c : a < b
  · rw [decide_eq_true c, decide_eq_false (Rat.not_le.mpr c)]; rfl
  · rw [decide_eq_false c, decide_eq_true (Rat.not_lt.mp c)]; rfl
theorem b_is_within : Body G_is_within 2 2 c_is_within sp_is_within := ⟨by
  rintro _ R ⟨p, x, rfl, ⟨h1, h2, h3⟩, h⟩
  refine ⟨rfl, by simp, ?_⟩
  show wpSs _ _ [vP p, vN x] _
  simp [c_is_within, G_is_within, h1, h3]
  by_cases c : x < p.1
  · simp [c]
    rw [decide_eq_false (Rat.not_le.mpr c)] at h
    exact h
  · rw [decide_eq_true (Rat.not_lt.mp c)] at h
    simp [c, h2]
    rw [show (!decide (p.2 < x)) = decide (x ≤ p.2) from not_lt_b _ _]
    exact h⟩
def sp_check_tube : Spec := fun ss R => ∃ t : List (Rat × Rat), ss = [vT t] ∧ tOk t ∧ R (.val .non) ss
@[simp ↓, simp] theorem check_tube_eq (t : List (Rat × Rat)) (R : Fd → List Sl → Prop) : sp_check_tube [vT t] R = (tOk t ∧ R (.val .non) [vT t]) := ex1 vT_inj t
def G_check_tube : Gam := { fn := [("is_tube", sp_is_tube)] }
theorem b_check_tube : Body G_check_tube 1 1 c_check_tube sp_check_tube := ⟨by
  rintro _ R ⟨t, rfl, h1, h⟩
  refine ⟨rfl, by simp, ?_⟩
  show wpSs _ _ [vT t] _
  simp [c_check_tube, G_check_tube]
  exact ⟨h1, h⟩⟩
/-- within the bounds -/
def InT (t : List (Rat × Rat)) (r : List Rat) : Prop := ∀ k, k < t.length → loT t k ≤ at0 r k ∧ at0 r k ≤ hiT t k
noncomputable def inB (t : List (Rat × Rat)) (r : List Rat) : Bool := yes (InT t r)
def sp_is_row : Spec := fun ss R => ∃ (t : List (Rat × Rat)) (r : List Rat), ss = [vT t, vR r] ∧ (tOk t ∧ r.length = t.length ∧ ∀ x ∈ r, sm x) ∧ R (.val (.bl (inB t r))) ss
@[simp ↓, simp] theorem is_row_eq (t : List (Rat × Rat)) (r : List Rat) (R : Fd → List Sl → Prop) : sp_is_row [vT t, vR r] R = ((tOk t ∧ r.length = t.length ∧ ∀ x ∈ r, sm x) ∧ R (.val (.bl (inB t r))) [vT t, vR r]) := ex2 vT_inj vR_inj t r
def G_is_row : Gam := { fn := [("is_within", sp_is_within), ("are_numbers_tubes", sp_are_numbers), ("check_tube", sp_check_tube)] }
def inP (p : (Rat × Rat) × Rat) : Bool := decide (p.1.1 ≤ p.2) && decide (p.2 ≤ p.1.2)
theorem all_in {t : List (Rat × Rat)} {r : List Rat} (hl : r.length = t.length) : ((t.zip r).map inP).all id = inB t r := by
  refine yes_of ?_
  rw [List.all_eq_true]
  constructor
  · intro h k hk
    have m : inP (t[k], r[k]'(by omega)) = true := h _ (List.mem_map.mpr ⟨(t[k], r[k]'(by omega)), by
      rw [List.mem_iff_getElem]
      exact ⟨k, by simp; omega, by simp⟩, rfl⟩)
    unfold inP at m
    rw [Bool.and_eq_true, decide_eq_true_iff, decide_eq_true_iff] at m
    have e1 : loT t k = t[k].1 ∧ hiT t k = t[k].2 := by unfold loT hiT; simp [List.getD, hk]
    rw [e1.1, e1.2, at0_lt (by omega)]
    exact m
  · intro h b hb
    obtain ⟨p, hp, rfl⟩ := List.mem_map.mp hb
    obtain ⟨k, hk, rfl⟩ := List.mem_iff_getElem.mp hp
    have hk' : k < t.length := by simp at hk; omega
    obtain ⟨a, b⟩ := h k hk'
    have e1 : loT t k = t[k].1 ∧ hiT t k = t[k].2 := by unfold loT hiT; simp [List.getD, hk']
    rw [e1.1, at0_lt (by omega)] at a
    rw [e1.2, at0_lt (by omega)] at b
    show inP _ = true
    unfold inP
    simp [a, b]
theorem b_is_row : Body G_is_row 4 2 c_is_row sp_is_row := ⟨by
  rintro _ R ⟨t, r, rfl, ⟨h1, h2, h3⟩, h⟩
  refine ⟨rfl, by simp, ?_⟩
  show wpSs _ _ [vT t, vR r, .non, .non] _
  have l1 := h1.2.1
  simp [c_is_row, G_is_row, -o_ix]
  refine ⟨h1, ⟨by omega, by omega, by omega⟩, ?_⟩
  refine lc_all [vT t, vR r, .non, .non] [] (fun p : (Rat × Rat) × Rat => .tup [pairD p.1, nD p.2]) (fun p => .bl (inP p)) (t.zip r) (fun K hK => ?_) (by simp; omega) (still_nil _) (fun p hp K hK => ?_) ?_
  · rw [← pairs_map] at hK; exact hK
  · obtain ⟨a, b⟩ := p
    obtain ⟨m1, m2⟩ := List.of_mem_zip hp
    obtain ⟨q1, q2, _⟩ := h1.2.2 a m1
    have q3 := h3 b m2
    simp [lcStep_eq] at hK ⊢
    exact ⟨⟨q1, q2, q3⟩, hK⟩
  · simp
    refine ⟨(t.zip r).map inP, by rw [List.map_map]; rfl, ?_⟩
    rw [all_in h2]
    exact h⟩
def sp_bend_right : Spec := fun ss R => ∃ (a b h : Rat) (p : Rat × Rat), ss = [vN a, vN b, vN h, vP p] ∧ (sm a ∧ sm b) ∧ R (.val (.bl (if a < b then decide (h = p.2) else (!decide (b < a) || decide (h = p.1))))) ss
def G_bend_right : Gam := { fn := [("is_less", sp_is_less)] }
theorem ex4 {α β γ δ : Type} {f : α → Sl} {g : β → Sl} {i : γ → Sl} {j : δ → Sl} (inj : ∀ a b, f a = f b → a = b) (inj2 : ∀ a b, g a = g b → a = b) (inj3 : ∀ a b, i a = i b → a = b) (inj4 : ∀ a b, j a = j b → a = b) {K : α → β → γ → δ → Prop} (a : α) (b : β) (c : γ) (d : δ) : (∃ x y z w, [f a, g b, i c, j d] = [f x, g y, i z, j w] ∧ K x y z w) = K a b c d :=
  propext ⟨fun ⟨x, y, z, w, e, h⟩ => by
    have e2 := List.cons.inj e
    have e3 := List.cons.inj e2.2
    have e4 := List.cons.inj e3.2
    rw [inj a x e2.1, inj2 b y e3.1, inj3 c z e4.1, inj4 d w (List.cons.inj e4.2).1]; exact h, fun h => ⟨a, b, c, d, rfl, h⟩⟩
@[simp ↓, simp] theorem bend_right_eq (a b h : Rat) (p : Rat × Rat) (R : Fd → List Sl → Prop) : sp_bend_right [vN a, vN b, vN h, vP p] R = ((sm a ∧ sm b) ∧ R (.val (.bl (if a < b then decide (h = p.2) else (!decide (b < a) || decide (h = p.1))))) [vN a, vN b, vN h, vP p]) := ex4 vN_inj vN_inj vN_inj vP_inj a b h p
theorem b_bend_right : Body G_bend_right 4 4 c_bend_right sp_bend_right := ⟨by
  rintro _ R ⟨a, b, h, p, rfl, ⟨h1, h2⟩, hR⟩
  refine ⟨rfl, by simp, ?_⟩
  show wpSs _ _ [vN a, vN b, vN h, vP p] _
  simp [c_bend_right, G_bend_right, h1, h2]
  by_cases c : a < b
  · simp [c] at hR ⊢
    exact hR
  · rw [if_neg c] at hR
    simp [c]
    by_cases c2 : b < a
    · rw [decide_eq_true c2, Bool.not_true, Bool.false_or] at hR
      simp [c2]
      exact hR
    · rw [decide_eq_false c2, Bool.not_false, Bool.true_or] at hR
      simp [c2]
      exact hR⟩
def sp_steps_of : Spec := fun ss R => ∃ qs : List Rat, ss = [vR qs] ∧ (1 ≤ qs.length ∧ qs.length ≤ 1000 ∧ ∀ q ∈ qs, sm q) ∧ R (.lst ((stepsL qs).map nD)) ss
@[simp ↓, simp] theorem steps_of_eq (qs : List Rat) (R : Fd → List Sl → Prop) : sp_steps_of [vR qs] R = ((1 ≤ qs.length ∧ qs.length ≤ 1000 ∧ ∀ q ∈ qs, sm q) ∧ R (.lst ((stepsL qs).map nD)) [vR qs]) := ex1 vR_inj qs
def G_steps_of : Gam := { fn := [("taken", sp_taken)] }
theorem b_steps_of : Body G_steps_of 2 1 c_steps_of sp_steps_of := ⟨by
  rintro _ R ⟨qs, rfl, ⟨h1, h2, h3⟩, h⟩
  refine ⟨rfl, by simp, ?_⟩
  show wpSs _ _ [vR qs, .non] _
  simp [c_steps_of, G_steps_of, -o_ix]
  refine lc_all [vR qs, .non] [] (fun k : Nat => DL.D.int (0 + (k : Int))) (fun k : Nat => nD (at0 qs (k + 1) - at0 qs k)) (List.range (qs.length - 1)) (fun K hK => ?_) (by simp; omega) (still_nil _) (fun k hk K hK => ?_) ?_
  · simp
    exact ⟨by omega, hK⟩
  · have hk' := List.mem_range.mp hk
    simp [lcStep_eq, -o_ix] at hK ⊢
    refine ix_map (f := nD) (xs := qs) (by simp) _ (atI_at0 (show k + 1 < qs.length by omega)) ?_
    simp [-o_ix]
    refine ix_map (f := nD) (xs := qs) (by simp) _ (atI_at0 (show k < qs.length by omega)) ?_
    simp [-o_ix]
    exact ⟨sm_at0 h3 (by omega), sm_at0 h3 (by omega), hK⟩
  · have e : (List.range (qs.length - 1)).map (fun k : Nat => nD (at0 qs (k + 1) - at0 qs k)) = (stepsL qs).map nD := by unfold stepsL; rw [List.map_map]; rfl
    rw [e]
    simp
    exact h⟩
end DL

/-! DP5 -/
set_option exponentiation.threshold 100
namespace DL
open PySem PySem.Spec PyProof.Rows L2 LC

/-! ## is_cord -/
def bendP (t : List (Rat × Rat)) (r : List Rat) (k : Nat) : Prop := (at0 r (k + 1) - at0 r k < at0 r (k + 2) - at0 r (k + 1) → at0 r (k + 1) = hiT t (k + 1)) ∧ (at0 r (k + 2) - at0 r (k + 1) < at0 r (k + 1) - at0 r k → at0 r (k + 1) = loT t (k + 1))
noncomputable def bendsB (t : List (Rat × Rat)) (r : List Rat) : Bool := yes (∀ k, k + 2 < r.length → bendP t r k)
def sp_bends_right : Spec := fun ss R => ∃ (t : List (Rat × Rat)) (r : List Rat), ss = [vT t, vR r] ∧ (r.length = t.length ∧ 2 ≤ r.length ∧ r.length ≤ 1000 ∧ (∀ x ∈ r, sm x) ∧ ∀ x ∈ stepsL r, sm x) ∧ R (.val (.bl (bendsB t r))) ss
@[simp ↓, simp] theorem bends_right_eq (t : List (Rat × Rat)) (r : List Rat) (R : Fd → List Sl → Prop) : sp_bends_right [vT t, vR r] R = ((r.length = t.length ∧ 2 ≤ r.length ∧ r.length ≤ 1000 ∧ (∀ x ∈ r, sm x) ∧ ∀ x ∈ stepsL r, sm x) ∧ R (.val (.bl (bendsB t r))) [vT t, vR r]) := ex2 vT_inj vR_inj t r
def G_bends_right : Gam := { fn := [("bend_right", sp_bend_right), ("steps_of", sp_steps_of)] }
theorem bend_bool (a b h l u : Rat) : (if a < b then decide (h = u) else (!decide (b < a) || decide (h = l))) = true ↔ ((a < b → h = u) ∧ (b < a → h = l)) := by
  by_cases c : a < b
  · have : ¬ b < a := fun z => by grind
    simp [c, this]
  · by_cases c2 : b < a
    · simp [c, c2]
    · simp [c, c2]
theorem at_T {t : List (Rat × Rat)} {k : Nat} (h : k < t.length) : atI t (k : Int) = some (loT t k, hiT t k) := by
  rw [atI_nat, List.getElem?_eq_getElem h]
  unfold loT hiT
  simp [List.getD, h]
theorem b_bends_right : Body G_bends_right 4 2 c_bends_right sp_bends_right := ⟨by
  rintro _ R ⟨t, r, rfl, ⟨h1, h2, h3, h4, h5⟩, hR⟩
  refine ⟨rfl, by simp, ?_⟩
  show wpSs _ _ [vT t, vR r, .non, .non] _
  have ls : (stepsL r).length = r.length - 1 := stepsL_length r
  simp [c_bends_right, G_bends_right, -o_ix]
  refine ⟨⟨by omega, h3, h4⟩, ?_⟩
  refine lc_all [vT t, vR r, sL (stepsL r), .non] [] (fun j : Nat => DL.D.int (1 + (j : Int))) (fun j : Nat => .bl (if at0 r (j + 1) - at0 r j < at0 r (j + 2) - at0 r (j + 1) then decide (at0 r (j + 1) = hiT t (j + 1)) else (!decide (at0 r (j + 2) - at0 r (j + 1) < at0 r (j + 1) - at0 r j) || decide (at0 r (j + 1) = loT t (j + 1))))) (List.range (r.length - 2)) (fun K hK => ?_) (by simp; omega) (still_nil _) (fun j hj K hK => ?_) ?_
  · have e : (((stepsL r).length : Int) - 1).toNat = r.length - 2 := by omega
    simp [e]
    exact ⟨by omega, hK⟩
  · have hj' := List.mem_range.mp hj
    have g1 := stepsL_at (qs := r) (k := j) (by omega)
    have g2 := stepsL_at (qs := r) (k := j + 1) (by omega)
    simp [lcStep_eq, -o_ix] at hK ⊢
    refine ix_map (f := nD) (xs := stepsL r) (by simp) (at0 (stepsL r) j) ?_ ?_
    · rw [show (1 + (j : Int) - 1) = (j : Int) by omega]
      exact atI_at0 (by omega)
    simp [-o_ix]
    refine ix_map (f := nD) (xs := stepsL r) (by simp) (at0 (stepsL r) (j + 1)) ?_ ?_
    · rw [show (1 + (j : Int)) = ((j + 1 : Nat) : Int) by omega]
      exact atI_at0 (by omega)
    simp [-o_ix]
    refine ix_map (f := nD) (xs := r) (by simp) (at0 r (j + 1)) ?_ ?_
    · rw [show (1 + (j : Int)) = ((j + 1 : Nat) : Int) by omega]
      exact atI_at0 (by omega)
    simp [-o_ix]
    refine ix_map (f := pairD) (xs := t) (by simp) (loT t (j + 1), hiT t (j + 1)) ?_ ?_
    · rw [show (1 + (j : Int)) = ((j + 1 : Nat) : Int) by omega]
      exact at_T (by omega)
    simp [-o_ix]
    refine ⟨⟨sm_at0 h5 (by omega), sm_at0 h5 (by omega)⟩, ?_⟩
    rw [g1, g2]
    exact hK
  · simp
    refine ⟨(List.range (r.length - 2)).map fun j : Nat => (if at0 r (j + 1) - at0 r j < at0 r (j + 2) - at0 r (j + 1) then decide (at0 r (j + 1) = hiT t (j + 1)) else (!decide (at0 r (j + 2) - at0 r (j + 1) < at0 r (j + 1) - at0 r j) || decide (at0 r (j + 1) = loT t (j + 1)))), by rw [List.map_map]; rfl, ?_⟩
    have e : ((List.range (r.length - 2)).map fun j : Nat => (if at0 r (j + 1) - at0 r j < at0 r (j + 2) - at0 r (j + 1) then decide (at0 r (j + 1) = hiT t (j + 1)) else (!decide (at0 r (j + 2) - at0 r (j + 1) < at0 r (j + 1) - at0 r j) || decide (at0 r (j + 1) = loT t (j + 1))))).all id = bendsB t r := by
      refine yes_of ?_
      rw [List.all_eq_true]
      constructor
      · intro h k hk
        exact (bend_bool _ _ _ _ _).mp (h _ (List.mem_map.mpr ⟨k, List.mem_range.mpr (by omega), rfl⟩))
      · intro h b hb
        obtain ⟨k, hk, rfl⟩ := List.mem_map.mp hb
        have := List.mem_range.mp hk
        exact (bend_bool _ _ _ _ _).mpr (h k (by omega))
    rw [e]
    exact hR⟩
noncomputable def tautB (t : List (Rat × Rat)) (r : List Rat) : Bool := yes (Taut (loT t) (hiT t) (t.length - 1) (at0 r))
def sp_is_cord : Spec := fun ss R => ∃ (t : List (Rat × Rat)) (r : List Rat), ss = [vT t, vR r] ∧ (tied t ∧ r.length = t.length ∧ (∀ x ∈ r, sm x) ∧ ∀ x ∈ stepsL r, sm x) ∧ R (.val (.bl (tautB t r))) ss
@[simp ↓, simp] theorem is_cord_eq (t : List (Rat × Rat)) (r : List Rat) (R : Fd → List Sl → Prop) : sp_is_cord [vT t, vR r] R = ((tied t ∧ r.length = t.length ∧ (∀ x ∈ r, sm x) ∧ ∀ x ∈ stepsL r, sm x) ∧ R (.val (.bl (tautB t r))) [vT t, vR r]) := ex2 vT_inj vR_inj t r
def G_is_cord : Gam := { fn := [("is_tied", sp_is_tied), ("is_row", sp_is_row), ("bends_right", sp_bends_right)] }
theorem b_is_cord : Body G_is_cord 2 2 c_is_cord sp_is_cord := ⟨by
  rintro _ R ⟨t, r, rfl, ⟨h1, h2, h3, h4⟩, hR⟩
  refine ⟨rfl, by simp, ?_⟩
  show wpSs _ _ [vT t, vR r] _
  have l1 := h1.1.1
  have l2 := h1.1.2.1
  simp [c_is_cord, G_is_cord, -o_ix]
  refine ⟨h1, ⟨h1.1, h2, h3⟩, ?_⟩
  have key : tautB t r = (inB t r && bendsB t r) := by
    symm
    refine yes_of ?_
    unfold inB bendsB
    rw [Bool.and_eq_true, yes_iff, yes_iff]
    constructor
    · rintro ⟨a, b⟩
      exact ⟨fun k hk => a k (by omega), fun k hk c => (b k (by omega)).1 c, fun k hk c => (b k (by omega)).2 c⟩
    · intro T
      exact ⟨fun k hk => T.inn k (by omega), fun k hk => ⟨fun c => T.up k (by omega) c, fun c => T.dn k (by omega) c⟩⟩
  rw [key] at hR
  cases h : inB t r
  · rw [h] at hR
    simp
    exact hR
  · rw [h] at hR
    simp
    exact ⟨⟨h2, by omega, by omega, h3, h4⟩, hR⟩⟩
end DL

/-! DP6 -/
set_option exponentiation.threshold 100
namespace DL
open PySem PySem.Spec PyProof.Rows L2 LC

/-! ## is_bought -/
theorem cut_mid {α : Type} (xs : List α) : cut xs (some 1) (some (-1)) = (xs.drop 1).take (xs.length - 2) := by
  unfold cut HT.sIx
  cases xs with
  | nil => simp
  | cons x xs =>
    simp
    congr 1
    omega
theorem sums_mid (q : List Rat) (h : 1 ≤ q.length) : cut (sumsL q) (some 1) (some (-1)) = (List.range (q.length - 1)).map fun i => Sm q (i + 1) := by
  rw [cut_mid]
  apply List.ext_getElem
  · simp [rowF_length]
  · intro i h1 h2
    simp [rowF, Rat.zero_add]
theorem stTube_eq (q : List Rat) (p : Rat) (h : 1 ≤ q.length) : stTube q p = (0, 0) :: ((List.range (q.length - 1)).map fun i => (Sm q (i + 1), Sm q (i + 1) + p)) ++ [(Sm q q.length, Sm q q.length)] := by
  apply List.ext_getElem?
  intro k
  by_cases hk : k ≤ q.length
  · rw [stTube_at q p h hk]
    cases k with
    | zero => simp [Sm_zero]
    | succ k =>
      by_cases c : k + 1 < q.length
      · rw [if_pos (by omega), List.cons_append, List.getElem?_cons_succ, List.getElem?_append_left (by simp; omega), List.getElem?_map, List.getElem?_range (by omega)]; rfl
      · have e : k + 1 = q.length := by omega
        rw [if_neg (by omega), List.cons_append, List.getElem?_cons_succ, List.getElem?_append_right (by simp; omega)]
        simp [e, show k - (q.length - 1) = 0 by omega]
  · rw [List.getElem?_eq_none (by rw [stTube_length]; omega), List.getElem?_eq_none (by simp; omega)]
def sp_store_bounds : Spec := fun ss R => ∃ (q : List Rat) (p : Rat), ss = [vR q, vN p] ∧ (1 ≤ q.length ∧ SumOk q ∧ sm p) ∧ R (.val (tubeD (stTube q p))) ss
@[simp ↓, simp] theorem store_bounds_eq (q : List Rat) (p : Rat) (R : Fd → List Sl → Prop) : sp_store_bounds [vR q, vN p] R = ((1 ≤ q.length ∧ SumOk q ∧ sm p) ∧ R (.val (tubeD (stTube q p))) [vR q, vN p]) := ex2 vR_inj vN_inj q p
def G_store_bounds : Gam := { fn := [("added", sp_added), ("sums_of", sp_sums_of)], cst := [("NOUGHT", nD 0)] }
theorem b_store_bounds : Body G_store_bounds 5 2 c_store_bounds sp_store_bounds := ⟨by
  rintro _ R ⟨q, p, rfl, ⟨h1, h2, h3⟩, hR⟩
  refine ⟨rfl, by simp, ?_⟩
  show wpSs _ _ [vR q, vN p, .non, .non, .non] _
  have hl := h2.l
  simp [c_store_bounds, G_store_bounds, -o_ix]
  refine ⟨h2, ?_⟩
  refine lc_all [vR q, vN p, vR (sumsL q), .non, .non] [] nD (fun x => .tup [nD x, nD (x + p)]) (cut (sumsL q) (some 1) (some (-1))) (fun K hK => ?_) ?_ (still_nil _) (fun x hx K hK => ?_) ?_
  · have e : wpSl [vR q, vN p, vR (sumsL q), .non, .non] (.val (rowD (sumsL q))) (some 1) (some (-1)) (fun x ρ1 => wpSeq ρ1 x K) = K ⟨cut ((sumsL q).map nD) (some 1) (some (-1)), []⟩ [vR q, vN p, vR (sumsL q), .non, .non] := rfl
    simp
    rw [e, cut_map]
    exact hK
  · rw [sums_mid q h1]; simp; omega
  · rw [sums_mid q h1] at hx
    obtain ⟨i, hi, rfl⟩ := List.mem_map.mp hx
    have := List.mem_range.mp hi
    simp [lcStep_eq] at hK ⊢
    exact ⟨h2.s _ (by omega), h3, hK⟩
  · have last : atI (sumsL q) (-1) = some (Sm q q.length) := by rw [rowF_last, Rat.zero_add]
    rw [sums_mid q h1]
    simp [-o_ix, -List.map_map]
    refine ⟨by simp; omega, ?_⟩
    simp [-o_ix, -List.map_map]
    refine ix_map (f := nD) (xs := sumsL q) (seq_R _ _) _ last ?_
    simp [-o_ix, -List.map_map]
    refine ix_map (f := nD) (xs := sumsL q) (seq_R _ _) _ last ?_
    simp [-o_ix, -List.map_map]
    refine ⟨by omega, ?_⟩
    rw [stTube_eq q p h1] at hR
    unfold tubeD at hR
    rw [List.map_append, List.map_cons, List.map_map] at hR
    simp only [List.map_map]
    exact hR⟩
def sp_are_numbers_2 : Spec := fun ss R => ∃ (q : List Rat) (n : Int), ss = [vR q, vI n] ∧ q.length ≤ 1000 ∧ R (.val (.bl (decide ((q.length : Int) = n)))) ss
@[simp ↓, simp] theorem are_numbers_2_eq (q : List Rat) (n : Int) (R : Fd → List Sl → Prop) : sp_are_numbers_2 [vR q, vI n] R = (q.length ≤ 1000 ∧ R (.val (.bl (decide ((q.length : Int) = n)))) [vR q, vI n]) := ex2 vR_inj vI_inj q n
def G_are_numbers_2 : Gam := { fn := [("is_number", sp_is_number)] }
theorem b_are_numbers_2 : Body G_are_numbers_2 3 2 c_are_numbers_2 sp_are_numbers_2 := ⟨by
  rintro _ R ⟨q, n, rfl, h1, hR⟩
  refine ⟨rfl, by simp, ?_⟩
  show wpSs _ _ [vR q, vI n, .non] _
  simp [c_are_numbers_2, G_are_numbers_2]
  by_cases c : (q.length : Int) = n
  · rw [decide_eq_true c] at hR
    simp [c]
    refine lc_all [vR q, vI n, .non] [] nD (fun _ => .bl true) q (fun K hK => by simp; exact hK) (by omega) (still_nil _) (fun x hx K hK => ?_) ?_
    · simp [lcStep_eq] at hK ⊢
      exact hK
    · simp
      refine all_true q _ ?_
      simp [all_tt]
      exact hR
  · rw [decide_eq_false c] at hR
    simp [c]
    exact hR⟩
def sp_are_steps : Spec := fun ss R => ∃ q : List Rat, ss = [vR q] ∧ (1 ≤ q.length ∧ q.length ≤ 24) ∧ R (.val (.bl true)) ss
@[simp ↓, simp] theorem are_steps_eq (q : List Rat) (R : Fd → List Sl → Prop) : sp_are_steps [vR q] R = ((1 ≤ q.length ∧ q.length ≤ 24) ∧ R (.val (.bl true)) [vR q]) := ex1 vR_inj q
def G_are_steps : Gam := { fn := [("are_numbers_bendchecks", sp_are_numbers_2)], cst := [("MOST_STEPS_bendchecks", .int 24)] }
theorem b_are_steps : Body G_are_steps 1 1 c_are_steps sp_are_steps := ⟨by
  rintro _ R ⟨q, rfl, ⟨h1, h2⟩, hR⟩
  refine ⟨rfl, by simp, ?_⟩
  show wpSs _ _ [vR q] _
  have e1 : (1 : Int) ≤ (q.length : Int) := by omega
  have e2 : (q.length : Int) ≤ 24 := by omega
  simp [c_are_steps, G_are_steps, e1, e2]
  exact ⟨by omega, hR⟩⟩
def sp_is_price_2 : Spec := fun ss R => ∃ p : Rat, ss = [vN p] ∧ 0 ≤ p ∧ R (.val (.bl true)) ss
@[simp ↓, simp] theorem is_price_2_eq (p : Rat) (R : Fd → List Sl → Prop) : sp_is_price_2 [vN p] R = (0 ≤ p ∧ R (.val (.bl true)) [vN p]) := ex1 vN_inj p
def G_is_price_2 : Gam := { fn := [("is_number", sp_is_number)] }
theorem b_is_price_2 : Body G_is_price_2 1 1 c_is_price_2 sp_is_price_2 := ⟨by
  rintro _ R ⟨p, rfl, h1, hR⟩
  refine ⟨rfl, by simp, ?_⟩
  show wpSs _ _ [vN p] _
  have := Rat.num_nonneg.mpr h1
  simp [c_is_price_2, G_is_price_2, this]
  exact hR⟩
theorem any_false {α : Type} (xs : List α) (K : List Bool → Prop) (h : K (xs.map fun _ => false)) : ∃ bs : List Bool, (xs.map fun _ => D.bl false) = bs.map D.bl ∧ K bs := ⟨xs.map fun _ => false, by simp, h⟩
def sp_is_bought : Spec := fun ss R => ∃ (D M : Nat) (q : List Rat) (p : Rat) (x : List Rat), ss = [vR q, vN p, vR x] ∧ (StOk D M q p ∧ x.length = q.length ∧ SumOk q ∧ SumOk x) ∧ R (.val (.bl (tautB (stTube q p) (sumsL x)))) ss
def G_is_bought : Gam := { fn := [("is_cord", sp_is_cord), ("sums_of", sp_sums_of), ("store_bounds", sp_store_bounds), ("are_steps", sp_are_steps), ("is_price", sp_is_price_2), ("are_numbers_bendchecks", sp_are_numbers_2)] }
theorem sums_steps {x : List Rat} {k : Nat} (hk : k < x.length) : at0 (stepsL (sumsL x)) k = at0 x k := by
  rw [stepsL_at (by rw [rowF_length]; omega), rowF_at (by omega), rowF_at (by omega), Sm_succ (List.getElem?_eq_getElem hk), at0_lt hk]
  grind
theorem sumsL_steps (x : List Rat) : stepsL (sumsL x) = x := by
  refine ext_at0 (by rw [stepsL_length, rowF_length]; omega) fun k hk => ?_
  rw [stepsL_length, rowF_length] at hk
  exact sums_steps (by omega)
theorem sums_sm {x : List Rat} (h : SumOk x) : ∀ y ∈ sumsL x, sm y := fun y hy => by
  obtain ⟨i, hi, rfl⟩ := List.mem_map.mp hy
  have := List.mem_range.mp hi
  rw [Rat.zero_add]; exact h.s i (by omega)
theorem b_is_bought : Body G_is_bought 4 3 c_is_bought sp_is_bought := ⟨by
  rintro _ R ⟨D, M, q, p, x, rfl, ⟨O, hl, hq, hx⟩, hR⟩
  refine ⟨rfl, by simp, ?_⟩
  show wpSs _ _ [vR q, vN p, vR x, .non] _
  have l1 := O.ok.l1
  have l2 := O.ok.l2
  have T := O.tub
  have sp : sm p := T.smB (bd_le O.ok.bp (by omega))
  have el : (x.length : Int) = (q.length : Int) := by omega
  simp [c_is_bought, G_is_bought, -o_ix]
  refine ⟨⟨l1, l2⟩, O.ok.p0, by omega, ?_⟩
  simp [el, -o_ix]
  refine lc_all [vR q, vN p, vR x, .non] [] nD (fun _ => .bl false) q (fun K hK => by simp; exact hK) (by omega) (still_nil _) (fun y hy K hK => ?_) ?_
  · have := Rat.num_nonneg.mpr (O.x0 y hy)
    have : ¬ y.num < 0 := by omega
    simp [lcStep_eq, this] at hK ⊢
    exact hK
  · simp [-o_ix]
    refine any_false q _ ?_
    have nt : ¬ true ∈ q.map fun _ => false := by simp
    simp [nt, -o_ix]
    refine ⟨⟨l1, hq, sp⟩, hx, ⟨T.tied, by rw [rowF_length, stTube_length, hl], sums_sm hx, ?_⟩, hR⟩
    rw [sumsL_steps]
    exact hx.x⟩
end DL

/-! DP7 -/
set_option exponentiation.threshold 100
namespace DL
open PySem PySem.Spec PyProof.Rows L2 LC

/-! ## claims -/
theorem vD_inj (a b : DL.D) (h : vD a = vD b) : a = b := by injection h with h; injection h with h
/-- the three uses, each by its check -/
def sp_use (S1 S2 S3 : Spec) : Spec := fun ss R => ∃ c : DL.D, ss = [vD c, vD .non] ∧
  ((∃ a b d, c = .tup [.str "store", a, b, d] ∧ S1 [vD a, vD b, vD d] fun r ss' => ss' = [vD a, vD b, vD d] ∧ R r ss) ∨
   (∃ a b, c = .tup [.str "speeds", a, b] ∧ S2 [vD a, vD b] fun r ss' => ss' = [vD a, vD b] ∧ R r ss) ∨
   (∃ a b d, c = .tup [.str "done", a, b, d] ∧ S3 [vD a, vD b, vD d] fun r ss' => ss' = [vD a, vD b, vD d] ∧ R r ss))
def Mono (S : Spec) : Prop := ∀ ss (R R' : Fd → List Sl → Prop), (∀ r s, R r s → R' r s) → S ss R → S ss R'
def G_use (S1 S2 S3 : Spec) : Gam := { fn := [("are_done", S3), ("are_speeds", S2), ("is_bought", S1)] }
theorem b_use {S1 S2 S3 : Spec} (m1 : Mono S1) (m2 : Mono S2) (m3 : Mono S3) (v1 : ∀ ss R, S1 ss R → S1 ss fun r s => (∃ d, r = .val d) ∧ R r s) (v2 : ∀ ss R, S2 ss R → S2 ss fun r s => (∃ d, r = .val d) ∧ R r s) (v3 : ∀ ss R, S3 ss R → S3 ss fun r s => (∃ d, r = .val d) ∧ R r s) :
    Body (G_use S1 S2 S3) 2 2 c_use_claim (sp_use S1 S2 S3) := ⟨by
  rintro _ R ⟨c, rfl, h⟩
  refine ⟨rfl, by simp, ?_⟩
  rcases h with ⟨a, b, d, rfl, h⟩ | ⟨a, b, rfl, h⟩ | ⟨a, b, d, rfl, h⟩
  · show wpSs _ _ [vD (.tup [.str "store", a, b, d]), vD .non] _
    simp [c_use_claim, G_use]
    refine m1 _ _ _ (fun r s hr => ?_) (v1 _ _ h)
    obtain ⟨⟨d', rfl⟩, rfl, hr⟩ := hr
    simp
    exact hr
  · have n1 : ¬ ("speeds" : Str) = "store" := by decide
    show wpSs _ _ [vD (.tup [.str "speeds", a, b]), vD .non] _
    simp [c_use_claim, G_use, n1]
    refine m2 _ _ _ (fun r s hr => ?_) (v2 _ _ h)
    obtain ⟨⟨d', rfl⟩, rfl, hr⟩ := hr
    simp
    exact hr
  · have n1 : ¬ ("done" : Str) = "store" := by decide
    have n2 : ¬ ("done" : Str) = "speeds" := by decide
    show wpSs _ _ [vD (.tup [.str "done", a, b, d]), vD .non] _
    simp [c_use_claim, G_use, n1, n2]
    refine m3 _ _ _ (fun r s hr => ?_) (v3 _ _ h)
    obtain ⟨⟨d', rfl⟩, rfl, hr⟩ := hr
    simp
    exact hr⟩
/-! ## holds -/
def claimT : List (Str × Int × Str) := [("taut", 3, "taut_claim"), ("loose", 3, "taut_claim"), ("ring", 3, "taut_claim"), ("leveller", 3, "leveller_claim"), ("no leveller", 3, "no_leveller_claim"), ("not taut", 3, "not_taut_claim"), ("smooth", 4, "smooth_claim"), ("stair", 3, "smooth_claim"), ("settled", 3, "settled_claim"), ("store", 4, "use_claim"), ("speeds", 3, "use_claim"), ("done", 4, "use_claim")]
def claimD (e : Str × Int × Str) : DL.D := .tup [.str e.1, .int e.2.1, .fn e.2.2]
theorem claim_words : ∀ i : Nat, i < 12 → ∀ j : Nat, j < 12 → ((claimT.getD i ("", 0, "")).1 = (claimT.getD j ("", 0, "")).1 ↔ i = j) := by decide
theorem claim_ok : ∀ e ∈ claimT, PyData.strOk e.1 = true := by decide +kernel
def G_holds (S1 S2 S3 S4 S5 S6 S7 : Spec) : Gam := { fn := [("taut_claim", S1), ("leveller_claim", S2), ("no_leveller_claim", S3), ("not_taut_claim", S4), ("smooth_claim", S5), ("settled_claim", S6), ("use_claim", S7)], cst := [("CLAIMS", .tup [.tup [.str "taut", .int 3, .fn "taut_claim"], .tup [.str "loose", .int 3, .fn "taut_claim"], .tup [.str "ring", .int 3, .fn "taut_claim"], .tup [.str "leveller", .int 3, .fn "leveller_claim"], .tup [.str "no leveller", .int 3, .fn "no_leveller_claim"], .tup [.str "not taut", .int 3, .fn "not_taut_claim"], .tup [.str "smooth", .int 4, .fn "smooth_claim"], .tup [.str "stair", .int 3, .fn "smooth_claim"], .tup [.str "settled", .int 3, .fn "settled_claim"], .tup [.str "store", .int 4, .fn "use_claim"], .tup [.str "speeds", .int 3, .fn "use_claim"], .tup [.str "done", .int 4, .fn "use_claim"]])] }
/-- a claim, and what its own check says of it -/
def sp_holds (fn : List (Str × Spec)) : Spec := fun ss R => ∃ (k j : Nat) (e : Str × Int × Str) (S : Spec) (ds : List DL.D) (p : DL.D), claimT[k]? = some e ∧ fn[j]? = some (e.2.2, S) ∧ ss = [vD (.tup (.str e.1 :: ds)), vD p] ∧ ((ds.length : Int) + 1 = e.2.1 ∧ okD (.tup (.str e.1 :: ds))) ∧
  S ss fun r ss' => (∃ d, r = .val d) ∧ ss' = ss ∧ R r ss
theorem q_callv {Γ : Gam} {ρ : Env} {Q : QE} {i : Nat} {es : Es} {x : Str} (h : ρ[i]? = some (.fd (.val (.fn x)))) : wpE Γ (.callv i es) ρ Q = ∃ (k : Nat) (S : Spec), Γ.fn[k]? = some (x, S) ∧ wpEs Γ es ρ fun evs ρ1 => (match slsOf ρ1 evs with
      | some ss => (touch evs).Nodup ∧ S ss fun r ss' => wbOk evs ss' ∧ Q (evOf r) (wb ρ1 evs ss')
      | none => False) := by
  show (match ρ[i]? with
    | some (.fd (.val (.fn x))) => ∃ (k : Nat) (S : Spec), Γ.fn[k]? = some (x, S) ∧ wpEs Γ es ρ fun evs ρ1 => (match slsOf ρ1 evs with
      | some ss => (touch evs).Nodup ∧ S ss fun r ss' => wbOk evs ss' ∧ Q (evOf r) (wb ρ1 evs ss')
      | none => False)
    | _ => False) = _
  rw [h]
theorem b_holds {S1 S2 S3 S4 S5 S6 S7 : Spec} (m : ∀ p ∈ (G_holds S1 S2 S3 S4 S5 S6 S7).fn, Mono p.2) : Body (G_holds S1 S2 S3 S4 S5 S6 S7) 5 2 c_holds (sp_holds (G_holds S1 S2 S3 S4 S5 S6 S7).fn) := ⟨by
  rintro _ R ⟨k, j, e, S, ds, p, hk, hj, rfl, ⟨hl, hok⟩, hS⟩
  refine ⟨rfl, by simp, ?_⟩
  show wpSs _ _ [vD (.tup (.str e.1 :: ds)), vD p, .non, .non, .non] _
  have k12 : k < 12 := (List.getElem?_eq_some_iff.mp hk).1
  have ok0 : okD (.tup []) := okD_ly (n := 1) rfl (by decide)
  have sok := okD_str (claim_ok e (List.mem_of_getElem? hk))
  simp [c_holds, hok, ok0, -o_ix]
  have h0 : ∀ (ρ : Env) (Q : QE), wpIx ρ (.val (.tup (.str e.1 :: ds))) (.val (.int 0)) Q = Q (.val (.str e.1)) ρ := fun ρ Q => by
    have e1 : atI (DL.D.str e.1 :: ds) 0 = some (.str e.1) := (atI_nat _ 0).trans rfl
    rw [o_ix, e_seqT]
    apply propext
    exact ⟨fun ⟨d, h, q⟩ => by rw [e1] at h; cases h; exact q, fun h => ⟨_, e1, h⟩⟩
  rw [h0]
  simp [-o_ix]
  refine fr_rule ⟨claimT.map claimD, []⟩ [vD (.tup (.str e.1 :: ds)), vD p, .non, .non, .non] (fun K hK => hK) rfl ?_
  refine for_map claimD claimT (fun i ρ => i ≤ k ∧ ∃ s2 s3 s4, ρ = [vD (.tup (.str e.1 :: ds)), vD p, s2, s3, s4]) ⟨Nat.zero_le _, _, _, _, rfl⟩ ?_ ?_
  · rintro i x ρ K hx ⟨hik, s2, s3, s4, rfl⟩
    refine ⟨still_nil _, fun hK => ?_⟩
    have i12 : i < 12 := (List.getElem?_eq_some_iff.mp hx).1
    have xok := okD_str (claim_ok x (List.mem_of_getElem? hx))
    have same : e.1 = x.1 ↔ k = i := by
      have := claim_words k k12 i i12
      rw [List.getD, List.getD, hk, hx] at this
      exact this
    simp [frStep_eq, claimD, -o_ix]
    rw [h0]
    simp [sok, xok, -o_ix]
    by_cases c : k = i
    · subst c
      rw [hk] at hx
      cases hx
      simp [-o_ix, hl]
      rw [q_callv (x := e.2.2) rfl]
      refine ⟨j, S, hj, ?_⟩
      simp
      refine m _ (List.mem_of_getElem? hj) _ _ _ (fun r s hr => ?_) hS
      obtain ⟨⟨d, rfl⟩, rfl, hr⟩ := hr
      simp
      exact hr
    · have : ¬ e.1 = x.1 := fun z => c (same.mp z)
      simp [this, -o_ix]
      exact hK _ ⟨by omega, _, _, _, rfl⟩
  · rintro ρ ⟨h, _⟩
    have : claimT.length = 12 := rfl
    omega⟩
def sp_paper_store : Spec := fun ss R => ∃ (D M : Nat) (q : List Rat) (p : Rat), ss = [vR q, vN p] ∧ StOk D M q p ∧
  ∀ row : List Rat, row.length = q.length + 1 → Taut (loT (stTube q p)) (hiT (stTube q p)) q.length (at0 row) → (∀ y ∈ row, bd (D * K24) (M + M) y) → R (.val (.tup [.tup [.str "store", rowD q, nD p, rowD (stepsL row)], .non])) ss
def G_paper_store : Gam := { fn := [("bought", sp_bought)] }
theorem b_paper_store : Body G_paper_store 2 2 c_paper_store sp_paper_store := ⟨by
  rintro _ R ⟨D, M, q, p, rfl, O, hR⟩
  refine ⟨rfl, by simp, ?_⟩
  show wpSs _ _ [vR q, vN p] _
  simp [c_paper_store, G_paper_store]
  refine ⟨D, M, q, p, rfl, O, fun row h1 h2 h3 => ?_⟩
  simp
  exact hR row h1 h2 h3⟩
end DL

/-! DP8 -/
set_option exponentiation.threshold 100
namespace DL
open PySem PySem.Spec PyProof.Rows L2 LC

/-! ## law k96: what is drawn -/
theorem b_w_mixed_2 (Γ : Gam) : Body Γ 1 1 c_w_mixed_2 sp_w_mixed := ⟨by
  rintro _ R ⟨i, rfl, hi, hR⟩
  refine ⟨rfl, by simp, ?_⟩
  show wpSs _ _ [vI i] _
  simp [c_w_mixed_2]
  refine ⟨⟨2000000, 300, hi, by decide, by decide⟩, ?_⟩
  rw [Int.fmod_eq_emod_of_nonneg _ (by decide)]
  refine hR _ (Int.emod_nonneg _ (by decide)) ?_
  have := Int.emod_lt_of_pos (i * 698970004336018804786261105275506973231810118537891458689573) (show (0 : Int) < 10 ^ 60 by decide)
  simpa using this⟩
theorem b_w_pack_2 : Body G_w_pack 4 2 c_w_pack_2 sp_w_pack := ⟨by
  rintro _ R ⟨ns, k, rfl, ⟨hl, hk, hb⟩, hR⟩
  refine ⟨rfl, by simp, ?_⟩
  show wpSs _ _ [vSc ns, vI k, .non, .non] _
  simp [c_w_pack_2, G_w_pack, -o_ix]
  refine fr_rule ⟨[(k : Int) + 1, (k : Int)].map DL.D.int, []⟩ [vSc ns, vI k, vI 0, .non] (fun K hK => by simp; exact hK) rfl ?_
  refine for_map DL.D.int [(k : Int) + 1, (k : Int)] (fun i ρ => ∃ (f : Int) (s3 : Sl), ρ = [vSc ns, vI k, vI f, s3] ∧ 0 ≤ f ∧ f < 10 ^ (60 * i)) ⟨0, .non, rfl, by decide, by decide⟩ ?_ ?_
  · rintro i x ρ K hx ⟨f, s3, rfl, f0, f1⟩
    refine ⟨still_nil _, fun hK => ?_⟩
    have hi : i < 2 := by
      have := (List.getElem?_eq_some_iff.mp hx).1
      simpa using this
    have xk : 0 ≤ x ∧ x ≤ 1001 := by
      have hm := List.mem_of_getElem? hx
      simp at hm
      rcases hm with h | h <;> omega
    have big : ∀ {m : Nat}, m < 2 ^ 100 → m < 2 ^ 2000000 := fun h => Nat.lt_of_lt_of_le h (Nat.pow_le_pow_right (by decide) (by decide))
    have f2 : f < 10 ^ 60 := Int.lt_of_lt_of_le f1 (by
      have : i = 0 ∨ i = 1 := by omega
      rcases this with h | h <;> subst h <;> decide)
    simp [frStep_eq, G_w_pack, sl_lst, -o_ix]
    have e1 : mulOk f (10 ^ 60) := ⟨300, 300, by
      have : f.natAbs < 10 ^ 60 := by omega
      exact Nat.lt_of_lt_of_le this (by decide), by decide, by decide⟩
    have e2 : mulOk 6211 x := ⟨100, 100, by decide, lt_100 (by omega), by decide⟩
    have hcell : (6211 * x + 71).natAbs < 2 ^ 2000000 := big (Nat.lt_of_lt_of_le (show (6211 * x + 71).natAbs < 10000000 by omega) (by decide))
    obtain ⟨c, c1, c2⟩ := cell_law hb (some x) (some (x + 1)) hcell
    refine ⟨by simpa using e1, e2, ?_, ?_⟩
    · rw [cut_map, List.length_map]
      unfold cut
      rw [List.length_take, List.length_drop]
      omega
    rw [o_ix, e_seqL]
    refine ⟨_, c1, ?_⟩
    simp [G_w_pack, -o_ix]
    refine ⟨c, rfl, c2, fun m m0 m1 => ?_⟩
    simp
    refine hK _ ⟨_, _, rfl, by omega, ?_⟩
    have e : (10 : Int) ^ (60 * (i + 1)) = 10 ^ (60 * i) * 10 ^ 60 := by rw [Nat.mul_add, Int.pow_add]
    rw [e]
    have m1 : m < 1000000000000000000000000000000000000000000000000000000000000 := by simpa using m1
    have e60 : (10 : Int) ^ 60 = 1000000000000000000000000000000000000000000000000000000000000 := by decide
    rw [e60]
    generalize (10 : Int) ^ (60 * i) = P at f1
    omega
  · rintro ρ ⟨f, s3, rfl, f0, f1⟩
    refine ⟨still_nil _, ?_⟩
    simp
    exact hR f f0⟩

theorem b_w_led_2 : Body { fn := [("levelled", sp_levelled), ("between", sp_between)] } 3 2 c_w_led_2 sp_w_right := ⟨by
  rintro _ R ⟨D, M, a, g, rfl, ⟨Z, hl, h1, hn, ha, hg, L⟩, hR⟩
  refine ⟨rfl, by simp, ?_⟩
  show wpSs _ _ [vR a, vR g, .non] _
  have Z' : SzOk D M := Z.le (by omega)
  simp [c_w_led_2]
  refine ⟨D, M, a, g, rfl, ⟨Z', hl, h1, hn, ha, hg⟩, fun o ho hled => ?_⟩
  have hs := hled L
  cases o with
  | none => cases hs
  | some ls =>
    obtain ⟨P, le⟩ := ho ls rfl
    have en : isNon (.val (lvsD ls)) = false := rfl
    simp [optL, en]
    refine ⟨D, M, a, g, ls, rfl, ⟨Z', h1, hn, by omega, P⟩, ?_⟩
    simp
    exact hR⟩
def G_w_led_2 : Gam := { fn := [("levelled", sp_levelled), ("between", sp_between)] }
def sp_w_needs : Spec := fun ss R => ∃ (n : Int) (w : Nat), ss = [sPk n, vI w] ∧ (0 ≤ n ∧ 1 ≤ w ∧ w ≤ 100) ∧ ∀ (qs : List Rat) (n' : Int), 0 ≤ n' → 1 ≤ qs.length → qs.length ≤ w → (∀ x ∈ qs, bd 12 12 x ∧ 0 ≤ x) → R (.val (rowD qs)) [sPk n', vI w]
def G_w_needs : Gam := { fn := [("_law_take", sp_w_take), ("_law_low", sp_number)] }
theorem b_w_needs : Body G_w_needs 4 2 c_w_needs sp_w_needs := ⟨by
  rintro _ R ⟨n, w, rfl, ⟨hn, hw, hw2⟩, hR⟩
  refine ⟨rfl, ⟨.inr rfl, by simp⟩, ?_⟩
  show wpSs _ _ [sPk n, vI w, .non, .non] _
  obtain ⟨n1, c, e1, c1⟩ := digit hn (show (0 : Int) < (w : Int) by omega)
  simp [c_w_needs, G_w_needs, -o_ix]
  refine fr_rule ⟨intsL 0 (1 + c), []⟩ [sPk (n / w), vI w, sL [], .non] (fun K hK => ?_) rfl ?_
  · have e : (1 + (c : Int)).toNat = 1 + c := by omega
    simp [e1, e]
    exact ⟨⟨hn, by omega, by omega⟩, ⟨by omega, by omega⟩, hK⟩
  refine for_map (fun j : Nat => DL.D.int (0 + (j : Int))) (List.range (1 + c)) (fun i ρ => ∃ (n' : Int) (qs : List Rat) (s3 : Sl), ρ = [sPk n', vI w, sL qs, s3] ∧ 0 ≤ n' ∧ qs.length = i ∧ ∀ x ∈ qs, bd 12 12 x ∧ 0 ≤ x) ⟨n / w, [], .non, rfl, n1, rfl, by simp⟩ ?_ ?_
  · rintro i x ρ K hx ⟨n', qs, s3, rfl, p1, p2, p3⟩
    refine ⟨still_nil _, fun hK => ?_⟩
    have hi : i < 1 + c := by
      have := (List.getElem?_eq_some_iff.mp hx).1
      simpa using this
    obtain ⟨n2, a, e2, a1⟩ := digit p1 (show (0 : Int) < 13 by decide)
    obtain ⟨n3, b, e3, b1⟩ := digit n2 (show (0 : Int) < 6 by decide)
    simp [frStep_eq, G_w_needs, p1, e2, n2, e3, -o_ix]
    refine ix_dig (by simp; omega) fun d hd => ?_
    have hb : ∃ b : Nat, d = .int (b : Int) ∧ 0 < b ∧ b ∣ 12 ∧ b < 100 := by
      simp only [List.mem_cons, List.not_mem_nil, or_false] at hd
      rcases hd with h | h | h | h | h | h <;> subst h
      · exact ⟨1, rfl, by decide, by decide, by decide⟩
      · exact ⟨1, rfl, by decide, by decide, by decide⟩
      · exact ⟨1, rfl, by decide, by decide, by decide⟩
      · exact ⟨2, rfl, by decide, by decide, by decide⟩
      · exact ⟨3, rfl, by decide, by decide, by decide⟩
      · exact ⟨4, rfl, by decide, by decide, by decide⟩
    obtain ⟨b, rfl, b0, b12, b100⟩ := hb
    simp [show ¬ (b : Int) = 0 by omega, show ¬ b = 0 by omega]
    refine ⟨lt_9k (lt_100 (by omega)), by omega, ?_⟩
    rw [show mkRat (a : Int) b = Rat.divInt (a : Int) (b : Int) from rfl]
    have e : qs.map nD ++ [nD (Rat.divInt (a : Int) (b : Int))] = (qs ++ [Rat.divInt (a : Int) (b : Int)]).map nD := by rw [List.map_append]; rfl
    rw [e]
    refine hK _ ⟨_, _, _, rfl, n3, by simp [p2], fun z hz => ?_⟩
    rcases List.mem_append.mp hz with hz | hz
    · exact p3 z hz
    · rw [List.mem_singleton.mp hz]
      exact ⟨bd_frac b0 b12 (by omega), divInt_nonneg b0 (by omega)⟩
  · rintro ρ ⟨n', qs, s3, rfl, p1, p2, p3⟩
    refine ⟨still_nil _, ?_⟩
    rw [List.length_range] at p2
    simp
    exact hR qs n' p1 (by omega) (by omega) p3⟩
def sp_w_measure : Spec := fun ss R => ∃ (n : Int) (w v : Nat), ss = [sPk n, vI w, vI v] ∧ (0 ≤ n ∧ 1 ≤ w ∧ w ≤ 100 ∧ v = 9) ∧ ∀ (ms : List MP) (n' : Int), 0 ≤ n' → 1 ≤ ms.length → ms.length ≤ w → (∀ m ∈ ms, MBd 60 9 m) → R (.val (msD ms)) [sPk n', vI w, vI v]
def G_w_measure : Gam := { fn := [("_law_take", sp_w_take), ("_law_number", sp_w_number), ("_law_low", sp_number)] }
theorem b_w_measure : Body G_w_measure 6 3 c_w_measure sp_w_measure := ⟨by
  rintro _ R ⟨n, w, v, rfl, ⟨hn, hw, hw2, hv⟩, hR⟩
  subst hv
  refine ⟨rfl, ⟨.inr rfl, by simp⟩, ?_⟩
  show wpSs _ _ [sPk n, vI w, vI ((9 : Nat) : Int), .non, .non, .non] _
  obtain ⟨n1, c, e1, c1⟩ := digit hn (show (0 : Int) < (w : Int) by omega)
  simp [c_w_measure, G_w_measure, -o_ix]
  refine fr_rule ⟨intsL 0 (1 + c), []⟩ [sPk (n / w), vI w, vI 9, .fd (.lst []), .non, .non] (fun K hK => ?_) rfl ?_
  · have e : (1 + (c : Int)).toNat = 1 + c := by omega
    simp [e1, e]
    exact ⟨⟨hn, by omega, by omega⟩, ⟨by omega, by omega⟩, hK⟩
  refine for_map (fun j : Nat => DL.D.int (0 + (j : Int))) (List.range (1 + c)) (fun i ρ => ∃ (n' : Int) (ms : List MP) (s4 s5 : Sl), ρ = [sPk n', vI w, vI 9, .fd (.lst (ms.map mpD)), s4, s5] ∧ 0 ≤ n' ∧ ms.length = i ∧ ∀ m ∈ ms, MBd 60 9 m) ⟨n / w, [], .non, .non, rfl, n1, rfl, by simp⟩ ?_ ?_
  · rintro i x ρ K hx ⟨n', ms, s4, s5, rfl, p1, p2, p3⟩
    refine ⟨still_nil _, fun hK => ?_⟩
    have hi : i < 1 + c := by
      have := (List.getElem?_eq_some_iff.mp hx).1
      simpa using this
    obtain ⟨n2, a, e2, a1⟩ := digit p1 (show (0 : Int) < 9 by decide)
    obtain ⟨n3, b, e3, b1⟩ := digit n2 (show (0 : Int) < 3 by decide)
    obtain ⟨n4, s, e4, s1⟩ := digit n3 (show (0 : Int) < 2 by decide)
    simp [frStep_eq, G_w_measure, p1, e2, n2, e3, n3, e4, -o_ix]
    refine ⟨by omega, lt_9k (lt_100 (by omega)), ?_⟩
    refine ix_dig (by simp; omega) fun d hd => ?_
    have hb : ∃ bl : Bool, d = .str (sideW bl) := by
      simp only [List.mem_cons, List.not_mem_nil, or_false] at hd
      rcases hd with h | h <;> subst h
      · exact ⟨false, rfl⟩
      · exact ⟨true, rfl⟩
    obtain ⟨bl, rfl⟩ := hb
    simp [-o_ix]
    refine ⟨_, 9, rfl, ⟨n4, by decide⟩, fun q n5 q1 q2 => ?_⟩
    simp
    refine ⟨by omega, ?_⟩
    have eb : (1 + (b : Int)) = ((1 + b : Nat) : Int) := by omega
    have w0 : 0 < Rat.divInt (1 + (a : Int)) (1 + (b : Int)) := by
      rw [eb]
      exact divInt_pos (by omega) (by omega)
    have e : ms.map mpD ++ [DL.D.tup [.str (sideW bl), nD q, nD (Rat.divInt (1 + (a : Int)) (1 + (b : Int)))]] = (ms ++ [(⟨bl, q, Rat.divInt (1 + (a : Int)) (1 + (b : Int))⟩ : MP)]).map mpD := by rw [List.map_append]; rfl
    rw [e]
    refine hK _ ⟨_, ms ++ [⟨bl, q, Rat.divInt (1 + (a : Int)) (1 + (b : Int))⟩], _, _, rfl, q1, by simp [p2], fun z hz => ?_⟩
    rcases List.mem_append.mp hz with hz | hz
    · exact p3 z hz
    · rw [List.mem_singleton.mp hz]
      refine ⟨q2, ?_, w0⟩
      show bd 60 9 (Rat.divInt (1 + (a : Int)) (1 + (b : Int)))
      rw [eb]
      refine bd_frac (by omega) ?_ (by omega)
      have : b = 0 ∨ b = 1 ∨ b = 2 := by omega
      rcases this with h | h | h <;> subst h <;> decide
  · rintro ρ ⟨n', ms, s4, s5, rfl, p1, p2, p3⟩
    refine ⟨still_nil _, ?_⟩
    rw [List.length_range] at p2
    simp
    exact hR ms n' p1 (by omega) (by omega) p3⟩
end DL

/-! DP9 -/
set_option exponentiation.threshold 100
namespace DL
open PySem PySem.Spec PyProof.Rows L2 LC

/-! ## law k96: plans -/
/-- what is stored keeps to the room -/
def Stored (q : List Rat) (p : Rat) (x : List Rat) : Prop := (∀ k, k < q.length → 0 ≤ at0 x k ∧ 0 ≤ Sm x (k + 1) - Sm q (k + 1) ∧ Sm x (k + 1) - Sm q (k + 1) ≤ p) ∧ Sm x q.length - Sm q q.length = 0
noncomputable def storedB (q : List Rat) (p : Rat) (x : List Rat) : Bool := yes (Stored q p x)
def sp_w_stored : Spec := fun ss R => ∃ (q : List Rat) (p : Rat) (x : List Rat), ss = [vR q, vN p, vR x] ∧ (x.length = q.length ∧ q.length ≤ 1000 ∧ sm p ∧ (∀ y ∈ q, sm y) ∧ (∀ y ∈ x, sm y) ∧ ∀ k, k ≤ q.length → sm (Sm x k - Sm q k) ∧ sm (Sm x (k + 1) - Sm q k)) ∧ R (.val (.bl (storedB q p x))) ss
@[simp ↓, simp] theorem w_stored_eq (q : List Rat) (p : Rat) (x : List Rat) (R : Fd → List Sl → Prop) : sp_w_stored [vR q, vN p, vR x] R = ((x.length = q.length ∧ q.length ≤ 1000 ∧ sm p ∧ (∀ y ∈ q, sm y) ∧ (∀ y ∈ x, sm y) ∧ ∀ k, k ≤ q.length → sm (Sm x k - Sm q k) ∧ sm (Sm x (k + 1) - Sm q k)) ∧ R (.val (.bl (storedB q p x))) [vR q, vN p, vR x]) := ex3 vR_inj vN_inj vR_inj q p x
def G_w_stored_right : Gam := { fn := [("_law_under", sp_is_less), ("_law_less_by", sp_taken), ("_law_more", sp_added)] }
theorem yes_no {p : Prop} (h : ¬ p) : yes p = false := by
  cases e : yes p with
  | false => rfl
  | true => exact absurd (yes_iff.mp e) h
theorem yes_yes {p : Prop} (h : p) : yes p = true := yes_iff.mpr h
theorem b_w_stored_right : Body G_w_stored_right 5 3 c_w_stored_right sp_w_stored := ⟨by
  rintro _ R ⟨q, p, x, rfl, ⟨h1, h2, h3, h4, h5, h6⟩, hR⟩
  refine ⟨rfl, by simp, ?_⟩
  show wpSs _ _ [vR q, vN p, vR x, .non, .non] _
  simp [c_w_stored_right, G_w_stored_right, -o_ix]
  rw [nD_zero]
  refine fr_rule ⟨intsL 0 q.length, []⟩ [vR q, vN p, vR x, vN 0, .non] (fun K hK => ?_) rfl ?_
  · simp
    exact ⟨by omega, hK⟩
  refine for_map (fun j : Nat => DL.D.int (0 + (j : Int))) (List.range q.length) (fun i ρ => ∃ s4, ρ = [vR q, vN p, vR x, vN (Sm x i - Sm q i), s4] ∧ ∀ k, k < i → 0 ≤ at0 x k ∧ 0 ≤ Sm x (k + 1) - Sm q (k + 1) ∧ Sm x (k + 1) - Sm q (k + 1) ≤ p) ⟨.non, by rw [Sm_zero, Sm_zero, Rat.sub_self], fun k hk => absurd hk (by omega)⟩ ?_ ?_
  · rintro i j ρ K hj ⟨s4, rfl, hI⟩
    refine ⟨still_nil _, fun hK => ?_⟩
    have hi : i < q.length := by
      have := (List.getElem?_eq_some_iff.mp hj).1
      simpa using this
    have ej : j = i := by
      rw [List.getElem?_range hi] at hj
      exact (Option.some.inj hj).symm
    subst ej
    have xs : Sm x (j + 1) = Sm x j + at0 x j := by
      rw [Sm_succ (List.getElem?_eq_getElem (show j < x.length by omega)), at0_lt]
    have qs : Sm q (j + 1) = Sm q j + at0 q j := by
      rw [Sm_succ (List.getElem?_eq_getElem hi), at0_lt]
    have a1 := (h6 j (by omega)).1
    have a2 : sm (Sm x j - Sm q j + at0 x j) := by
      have := (h6 j (by omega)).2
      rw [xs] at this
      rw [show Sm x j - Sm q j + at0 x j = Sm x j + at0 x j - Sm q j by grind]; exact this
    have e3 : Sm x j - Sm q j + at0 x j - at0 q j = Sm x (j + 1) - Sm q (j + 1) := by rw [xs, qs]; grind
    have a3 := (h6 (j + 1) (by omega)).1
    have gx := atI_at0 (xs := x) (k := j) (by omega)
    have gq := atI_at0 (xs := q) (k := j) hi
    have sx := sm_at0 h5 (k := j) (by omega)
    have sq := sm_at0 h4 (k := j) hi
    simp [frStep_eq, G_w_stored_right, -o_ix]
    refine ix_map (f := nD) (xs := x) (by simp) _ gx ?_
    simp [a1, sx, -o_ix]
    refine ix_map (f := nD) (xs := q) (by simp) _ gq ?_
    simp [a2, sq, e3, -o_ix]
    refine ix_map (f := nD) (xs := x) (by simp) _ gx ?_
    simp [-o_ix]
    rw [nD_zero]
    simp [sx, sm0, a3, h3, -o_ix]
    have no : ¬ (0 ≤ at0 x j ∧ 0 ≤ Sm x (j + 1) - Sm q (j + 1) ∧ Sm x (j + 1) - Sm q (j + 1) ≤ p) → R (.val (.bl false)) [vR q, vN p, vR x] := fun h => by
      rw [show storedB q p x = false from yes_no fun S => h (S.1 j hi)] at hR
      exact hR
    by_cases c1 : at0 x j < 0
    · simp [c1]
      exact no fun h => absurd h.1 (Rat.not_le.mpr c1)
    · simp [c1, -o_ix]
      rw [nD_zero]
      simp [a3, sm0, -o_ix]
      by_cases c2 : Sm x (j + 1) - Sm q (j + 1) < 0
      · simp [c2]
        exact no fun h => absurd h.2.1 (Rat.not_le.mpr c2)
      · simp [c2, a3, h3, -o_ix]
        by_cases c3 : p < Sm x (j + 1) - Sm q (j + 1)
        · simp [c3]
          exact no fun h => absurd h.2.2 (Rat.not_le.mpr c3)
        · simp [c3]
          refine hK _ ⟨_, rfl, fun k hk => ?_⟩
          by_cases c4 : k < j
          · exact hI k c4
          · have : k = j := by omega
            subst this
            exact ⟨Rat.not_lt.mp c1, Rat.not_lt.mp c2, Rat.not_lt.mp c3⟩
  · rintro ρ ⟨s4, rfl, hI⟩
    refine ⟨still_nil _, ?_⟩
    rw [List.length_range] at hI ⊢
    simp [-o_ix]
    rw [nD_zero]
    simp
    have e : decide (Sm x q.length - Sm q q.length = 0) = storedB q p x := by
      refine yes_of ?_
      rw [decide_eq_true_iff]
      exact ⟨fun h => ⟨hI, h⟩, fun h => h.2⟩
    rw [e]
    exact hR⟩
def sp_w_other : Spec := fun ss R => ∃ (n : Int) (q : List Rat) (p : Rat), ss = [sPk n, vR q, vN p] ∧ (0 ≤ n ∧ q.length ≤ 24 ∧ (∀ y ∈ q, bd 12 12 y ∧ 0 ≤ y) ∧ bd 6 20 p ∧ 0 ≤ p) ∧ ∀ (x : List Rat) (n' : Int), 0 ≤ n' → x.length = q.length → (∀ y ∈ x, bd 36 60 y) → R (.val (rowD x)) [sPk n', vR q, vN p]
def G_w_other_plan : Gam := { fn := [("_law_less_by", sp_taken), ("_law_more", sp_added), ("_law_under", sp_is_less), ("_law_by", sp_multiplied), ("_law_take", sp_w_take)] }
theorem sm36 {N : Nat} {q : Rat} (h : bd 36 N q) (hN : N ≤ 1000000) : sm q := sm_of h (by decide) (Nat.lt_of_lt_of_le (show 36 < 2 ^ 6 by decide) (Nat.pow_le_pow_right (by decide) (by decide))) (Nat.lt_of_le_of_lt (Nat.mul_le_mul_right _ hN) (Nat.lt_of_lt_of_le (show 1000000 * 36 < 2 ^ 26 by decide) (Nat.pow_le_pow_right (by decide) (by decide))))
theorem frac_D (b : Nat) (h : b = 1 ∨ b = 2 ∨ b = 3) : DL.D.tup [.int 1, .int (b : Int)] = nD (Rat.divInt 1 (b : Int)) ∧ bd 6 1 (Rat.divInt 1 (b : Int)) ∧ 0 ≤ Rat.divInt 1 (b : Int) := by
  refine ⟨?_, bd_frac (by omega) ?_ (by decide), divInt_nonneg (by omega) (by decide)⟩
  · have k1 : (Rat.divInt 1 1).num = 1 ∧ (Rat.divInt 1 1).den = 1 := by decide +kernel
    have k2 : (Rat.divInt 1 2).num = 1 ∧ (Rat.divInt 1 2).den = 2 := by decide +kernel
    have k3 : (Rat.divInt 1 3).num = 1 ∧ (Rat.divInt 1 3).den = 3 := by decide +kernel
    rcases h with h | h | h <;> subst h <;> unfold nD
    · show _ = DL.D.tup [.int (Rat.divInt 1 1).num, .int ((Rat.divInt 1 1).den : Int)]
      rw [k1.1, k1.2]
    · show _ = DL.D.tup [.int (Rat.divInt 1 2).num, .int ((Rat.divInt 1 2).den : Int)]
      rw [k2.1, k2.2]
    · show _ = DL.D.tup [.int (Rat.divInt 1 3).num, .int ((Rat.divInt 1 3).den : Int)]
      rw [k3.1, k3.2]
  · rcases h with h | h | h <;> subst h <;> decide
theorem b_w_other_plan : Body G_w_other_plan 8 3 c_w_other_plan sp_w_other := ⟨by
  rintro _ R ⟨n, q, p, rfl, ⟨h1, h2, h3, h4, h5⟩, hR⟩
  refine ⟨rfl, ⟨.inr rfl, by simp⟩, ?_⟩
  show wpSs _ _ [sPk n, vR q, vN p, .non, .non, .non, .non, .non] _
  simp [c_w_other_plan, G_w_other_plan, -o_ix]
  rw [nD_zero]
  refine fr_rule ⟨intsL 0 q.length, []⟩ [sPk n, vR q, vN p, vN 0, sL [], .non, .non, .non] (fun K hK => ?_) rfl ?_
  · simp
    exact ⟨by omega, hK⟩
  refine for_map (fun j : Nat => DL.D.int (0 + (j : Int))) (List.range q.length) (fun i ρ => ∃ (n' : Int) (l : Rat) (x : List Rat) (s5 s6 s7 : Sl), ρ = [sPk n', vR q, vN p, vN l, sL x, s5, s6, s7] ∧ 0 ≤ n' ∧ bd 36 20 l ∧ 0 ≤ l ∧ x.length = i ∧ ∀ y ∈ x, bd 36 60 y) ⟨n, 0, [], .non, .non, .non, rfl, h1, bd_zero, Rat.le_refl, rfl, by simp⟩ ?_ ?_
  · rintro i j ρ K hj ⟨n', l, x, s5, s6, s7, rfl, p1, p2, p3, p4, p5⟩
    refine ⟨still_nil _, fun hK => ?_⟩
    have hi : i < q.length := by
      have := (List.getElem?_eq_some_iff.mp hj).1
      simpa using this
    have ej : j = i := by
      rw [List.getElem?_range hi] at hj
      exact (Option.some.inj hj).symm
    subst ej
    have gq := atI_at0 (xs := q) (k := j) hi
    obtain ⟨bq, q0⟩ : bd 12 12 (at0 q j) ∧ 0 ≤ at0 q j := by rw [at0_lt hi]; exact h3 _ (List.getElem_mem hi)
    have bq' := bd_dvd bq (show 12 ∣ 36 by decide)
    obtain ⟨n2, a, e2, a1⟩ := digit p1 (show (0 : Int) < 4 by decide)
    simp [frStep_eq, G_w_other_plan, p1, e2, -o_ix]
    refine ix_dig (by simp; omega) fun d hd => ?_
    have hb : ∃ f : Rat, d = nD f ∧ bd 6 1 f ∧ 0 ≤ f := by
      simp only [List.mem_cons, List.not_mem_nil, or_false] at hd
      rcases hd with h | h | h | h <;> subst h
      · exact ⟨0, rfl, bd_zero, Rat.le_refl⟩
      · exact ⟨_, (frac_D 1 (by omega)).1, (frac_D 1 (by omega)).2⟩
      · exact ⟨_, (frac_D 2 (by omega)).1, (frac_D 2 (by omega)).2⟩
      · exact ⟨_, (frac_D 3 (by omega)).1, (frac_D 3 (by omega)).2⟩
    obtain ⟨f, rfl, f1, f2⟩ := hb
    have bf : bd 36 20 (p * f) := bd_mul h4 f1
    have f0 : 0 ≤ p * f := Rat.mul_nonneg h5 f2
    have sp := sm36 (bd_dvd h4 (show 6 ∣ 36 by decide)) (by decide)
    have sf := sm36 (bd_dvd f1 (show 6 ∣ 36 by decide)) (by decide)
    simp [sp, sf, -o_ix]
    have sq : sm (at0 q j) := sm36 bq' (by decide)
    have sl : sm l := sm36 p2 (by decide)
    by_cases c : (j : Int) = (q.length : Int) - 1
    case' pos =>
      rw [if_pos c, nD_zero]
      obtain ⟨F, eF, bF, F0⟩ : ∃ F : Rat, nD 0 = nD F ∧ bd 36 20 F ∧ 0 ≤ F := ⟨0, rfl, bd_zero, Rat.le_refl⟩
      rw [eF]
    case' neg =>
      rw [if_neg c]
      obtain ⟨F, eF, bF, F0⟩ : ∃ F : Rat, nD (p * f) = nD F ∧ bd 36 20 F ∧ 0 ≤ F := ⟨_, rfl, bf, f0⟩
      rw [eF]
    all_goals
      have sF : sm F := sm36 bF (by decide)
      have sqF : sm (at0 q j + F) := sm36 (bd_add bq' bF) (by decide)
      refine ix_map (f := nD) (xs := q) (by simp) _ gq ?_
      simp [sq, sF, sqF, sl, -o_ix]
      by_cases c2 : at0 q j + F < l
      case' pos =>
        simp [c2, -o_ix]
        refine ix_map (f := nD) (xs := q) (by simp) _ gq ?_
        simp [sq, sl, -o_ix]
        obtain ⟨F', eF', bF', F0'⟩ : ∃ F' : Rat, nD (l - at0 q j) = nD F' ∧ bd 36 20 F' ∧ 0 ≤ F' := ⟨_, rfl, by
          obtain ⟨⟨z, hz⟩, _, _⟩ := bd_sub p2 bq'
          obtain ⟨_, u1, u2⟩ := p2
          exact ⟨⟨z, hz⟩, by grind, by grind⟩, by grind⟩
        rw [eF']
      case' neg =>
        simp [c2, -o_ix]
        obtain ⟨F', eF', bF', F0'⟩ : ∃ F' : Rat, nD F = nD F' ∧ bd 36 20 F' ∧ 0 ≤ F' := ⟨_, rfl, bF, F0⟩
        rw [eF']
      all_goals
        have sF' : sm F' := sm36 bF' (by decide)
        have sqF' : sm (at0 q j + F') := sm36 (bd_add bq' bF') (by decide)
        refine ix_map (f := nD) (xs := q) (by simp) _ gq ?_
        simp [sq, sF', sqF', sl, -o_ix]
        refine ⟨by omega, ?_⟩
        have e : x.map nD ++ [nD (at0 q j + F' - l)] = (x ++ [at0 q j + F' - l]).map nD := by rw [List.map_append]; rfl
        rw [e]
        refine hK _ ⟨_, F', x ++ [at0 q j + F' - l], _, _, _, rfl, n2, bF', F0', by simp [p4], fun y hy => ?_⟩
        rcases List.mem_append.mp hy with hy | hy
        · exact p5 y hy
        · rw [List.mem_singleton.mp hy]
          exact bd_le (bd_sub (bd_add bq' bF') p2) (by decide)
  · rintro ρ ⟨n', l, x, s5, s6, s7, rfl, p1, p2, p3, p4, p5⟩
    refine ⟨still_nil _, ?_⟩
    rw [List.length_range] at p4
    simp
    exact hR x n' p1 p4 p5⟩
end DL

/-! DP10 -/
set_option exponentiation.threshold 100
namespace DL
open PySem PySem.Spec PyProof.Rows L2 LC

/-! ## stores: what their cords owe each other -/
theorem Sm_steps {r : List Rat} : ∀ {k : Nat}, k < r.length → Sm (stepsL r) k = at0 r k - at0 r 0
  | 0, _ => by rw [Sm_zero, Rat.sub_self]
  | k + 1, h => by
    have l := stepsL_length r
    rw [Sm_succ (List.getElem?_eq_getElem (show k < (stepsL r).length by omega)), ← at0_lt, stepsL_at (by omega), Sm_steps (by omega)]
    grind
/-- a bought row: within, taut -/
structure SRow (q : List Rat) (p : Rat) (r : List Rat) : Prop where
  len : r.length = q.length + 1
  taut : Taut (loT (stTube q p)) (hiT (stTube q p)) q.length (at0 r)
section
variable {q : List Rat} {p p' : Rat} {r r' : List Rat}
theorem st_in (h1 : 1 ≤ q.length) {k : Nat} (hk : k ≤ q.length) {v : Rat} : (loT (stTube q p) k ≤ v ∧ v ≤ hiT (stTube q p) k) ↔ (Sm q k ≤ v ∧ v ≤ if 0 < k ∧ k < q.length then Sm q k + p else Sm q k) := by
  obtain ⟨e1, e2⟩ := stTube_lo q p h1 hk
  rw [e1, e2]
theorem SRow.zero (S : SRow q p r) (h1 : 1 ≤ q.length) : at0 r 0 = 0 := by
  have := (st_in h1 (Nat.zero_le _)).mp (S.taut.inn 0 (Nat.zero_le _))
  rw [if_neg (by omega), Sm_zero] at this
  grind
theorem SRow.fin (S : SRow q p r) (h1 : 1 ≤ q.length) : at0 r q.length = Sm q q.length := by
  have := (st_in h1 (Nat.le_refl _)).mp (S.taut.inn _ (Nat.le_refl _))
  rw [if_neg (by omega)] at this
  grind
theorem SRow.sums (S : SRow q p r) (h1 : 1 ≤ q.length) : sumsL (stepsL r) = r := by
  have l := stepsL_length r
  have := S.len
  refine ext_at0 (by rw [rowF_length]; omega) fun k hk => ?_
  rw [rowF_length] at hk
  rw [rowF_at (by omega), Sm_steps (by omega), S.zero h1]
  grind
/-- less room is within more room -/
theorem SRow.wide (S : SRow q p r) (h1 : 1 ≤ q.length) (hp : p ≤ p') : ∀ k, k ≤ q.length → loT (stTube q p') k ≤ at0 r k ∧ at0 r k ≤ hiT (stTube q p') k := fun k hk => by
  have := (st_in h1 hk).mp (S.taut.inn k hk)
  refine (st_in h1 hk).mpr ⟨this.1, ?_⟩
  by_cases c : 0 < k ∧ k < q.length
  · rw [if_pos c] at this ⊢
    grind
  · rw [if_neg c] at this ⊢
    exact this.2
theorem st_ends (h1 : 1 ≤ q.length) : loT (stTube q p) 0 = hiT (stTube q p) 0 ∧ loT (stTube q p) q.length = hiT (stTube q p) q.length := by
  obtain ⟨a1, a2⟩ := stTube_lo q p h1 (Nat.zero_le _)
  obtain ⟨b1, b2⟩ := stTube_lo q p h1 (Nat.le_refl q.length)
  rw [a1, a2, b1, b2, if_neg (by omega), if_neg (by omega)]
  exact ⟨rfl, rfl⟩
theorem SRow.led (S' : SRow q p' r') (h1 : 1 ≤ q.length) (lr : r.length = q.length + 1) (h : ∀ k, k ≤ q.length → loT (stTube q p') k ≤ at0 r k ∧ at0 r k ≤ hiT (stTube q p') k) : Led (stepsL r) (stepsL r') := by
  obtain ⟨n, hn⟩ : ∃ n, q.length = n + 1 := ⟨q.length - 1, by omega⟩
  obtain ⟨e0, en⟩ := st_ends (q := q) (p := p') h1
  have T := S'.taut
  have l' := S'.len
  rw [hn] at T h en
  exact led_row T h e0 en (by omega) (by omega)
theorem SRow.same (S : SRow q p r) (S' : SRow q p r') (h1 : 1 ≤ q.length) : r' = r := by
  obtain ⟨n, hn⟩ : ∃ n, q.length = n + 1 := ⟨q.length - 1, by omega⟩
  have l := S.len
  have l' := S'.len
  have T := S.taut
  have T' := S'.taut
  have z := S.zero h1
  have z' := S'.zero h1
  have f := S.fin h1
  have f' := S'.fin h1
  rw [hn] at T T' f f'
  refine ext_at0 (by omega) fun k hk => ?_
  exact taut_unique T T' (by rw [z, z']) (by rw [f, f']) k (by omega)
theorem SRow.none (S : SRow q 0 r) (h1 : 1 ≤ q.length) : stepsL r = q := by
  have l := S.len
  have ls := stepsL_length r
  refine ext_at0 (by omega) fun k hk => ?_
  have v : ∀ k, k ≤ q.length → at0 r k = Sm q k := fun k hk => by
    have := (st_in h1 hk).mp (S.taut.inn k hk)
    split at this <;> grind
  rw [stepsL_at (by omega), v k (by omega), v (k + 1) (by omega), Sm_succ (List.getElem?_eq_getElem (show k < q.length by omega)), at0_lt (show k < q.length by omega)]
  grind
theorem Sm_up (hq : ∀ x ∈ q, 0 ≤ x) : ∀ a b, a ≤ b → b ≤ q.length → Sm q a ≤ Sm q b := fun a b => by
  refine mono_le (f := Sm q) (n := q.length) (fun k hk => ?_) a b
  rw [Sm_succ (List.getElem?_eq_getElem hk)]
  have := hq _ (List.getElem_mem hk)
  grind
theorem SRow.stored (S : SRow q p r) (h1 : 1 ≤ q.length) (p0 : 0 ≤ p) (hq : ∀ x ∈ q, 0 ≤ x) : Stored q p (stepsL r) := by
  have l := S.len
  have ls := stepsL_length r
  have z := S.zero h1
  refine ⟨fun k hk => ?_, ?_⟩
  · rw [Sm_steps (by omega), stepsL_at (by omega), z]
    have up := taut_rises S.taut (fun a b h1' h2' => by
      rw [(stTube_lo q p h1 (show a ≤ q.length by omega)).1, (stTube_lo q p h1 h2').1]
      exact Sm_up hq a b h1' h2') (st_ends h1).1 k hk
    have i := (st_in h1 (show k + 1 ≤ q.length by omega)).mp (S.taut.inn (k + 1) (by omega))
    refine ⟨by grind, by grind, ?_⟩
    by_cases c : 0 < k + 1 ∧ k + 1 < q.length
    · rw [if_pos c] at i; grind
    · rw [if_neg c] at i; grind
  · rw [Sm_steps (by omega), z, S.fin h1]; grind
/-- a plan that keeps to the room is a row of the tube -/
theorem stored_in {x : List Rat} (h1 : 1 ≤ q.length) (lx : x.length = q.length) (p0 : 0 ≤ p) (S : Stored q p x) : ∀ k, k ≤ q.length → loT (stTube q p) k ≤ at0 (sumsL x) k ∧ at0 (sumsL x) k ≤ hiT (stTube q p) k := fun k hk => by
  refine (st_in h1 hk).mpr ?_
  rw [rowF_at (by omega), Rat.zero_add]
  cases k with
  | zero => rw [if_neg (by omega), Sm_zero, Sm_zero]; exact ⟨Rat.le_refl, Rat.le_refl⟩
  | succ k =>
    obtain ⟨a, b, c⟩ := S.1 k (by omega)
    by_cases c2 : 0 < k + 1 ∧ k + 1 < q.length
    · rw [if_pos c2]; exact ⟨by grind, by grind⟩
    · have : k + 1 = q.length := by omega
      rw [if_neg c2]
      have e := S.2
      rw [← this] at e
      exact ⟨by grind, by grind⟩
end
end DL

/-! DP11 -/
set_option exponentiation.threshold 100
namespace DL
open PySem PySem.Spec PyProof.Rows L2 LC

/-! ## law k96 -/
section
variable {ρ : Env} {s : Sl} {Q : QE}
@[simp ↓, simp] theorem q_lst3 (a b c : D) : wpLst [.val a, .val b, .val c] (s :: ρ) Q = Q (.tmp [a, b, c]) (s :: ρ) := by simp [wpLst, valsOf]
end
theorem stOk36 {q : List Rat} {p : Rat} (h1 : 1 ≤ q.length) (h2 : q.length ≤ 24) (hq : ∀ x ∈ q, bd 12 12 x ∧ 0 ≤ x) (hp : bd 36 40 p) (p0 : 0 ≤ p) : StOk 36 4000 q p := by
  have b : ∀ x ∈ q, bd 36 12 x := fun x hx => bd_dvd (hq x hx).1 (by decide)
  exact ⟨⟨h1, h2, by decide, Nat.lt_of_lt_of_le (show 36 * K24 < 2 ^ 100 by decide) (Nat.pow_le_pow_right (by decide) (by decide)), Nat.lt_of_lt_of_le (show 4 * (4000 + 4000) * (36 * K24) < 2 ^ 100 by decide) (Nat.pow_le_pow_right (by decide) (by decide)), p0, bd_le hp (by decide), fun x hx => bd_le (b x hx) (by decide), fun k _ => bd_le (Sm_bd b h2 k) (by decide)⟩, fun x hx => (hq x hx).2⟩
theorem sz36 {M : Nat} (h : M ≤ 1000000000) : SzOk (36 * K24) M := ⟨by decide, Nat.lt_of_lt_of_le (show 36 * K24 < 2 ^ 100 by decide) (Nat.pow_le_pow_right (by decide) (by decide)),
  Nat.lt_of_le_of_lt (Nat.mul_le_mul_right _ (Nat.mul_le_mul_left _ h)) (Nat.lt_of_lt_of_le (show 4 * 1000000000 * (36 * K24) < 2 ^ 100 by decide) (Nat.pow_le_pow_right (by decide) (by decide)))⟩
theorem sz36w {M : Nat} (h : M ≤ 1000000000) : SzOk (60 * (36 * K24)) M := ⟨by decide, Nat.lt_of_lt_of_le (show 60 * (36 * K24) < 2 ^ 100 by decide) (Nat.pow_le_pow_right (by decide) (by decide)),
  Nat.lt_of_le_of_lt (Nat.mul_le_mul_right _ (Nat.mul_le_mul_left _ h)) (Nat.lt_of_lt_of_le (show 4 * 1000000000 * (60 * (36 * K24)) < 2 ^ 200 by decide) (Nat.pow_le_pow_right (by decide) (by decide)))⟩
/-- steps of the right size -/
def StBd (n : Nat) (a : List Rat) : Prop := a.length = n ∧ ∀ x ∈ a, bd (36 * K24) 16000 x
theorem StBd.row {q : List Rat} {p : Rat} {r : List Rat} (S : SRow q p r) (h : ∀ y ∈ r, bd (36 * K24) (4000 + 4000) y) : StBd q.length (stepsL r) := ⟨by rw [stepsL_length, S.len]; rfl, bd_steps h⟩
theorem StBd.sums {n : Nat} {a : List Rat} (h : StBd n a) (hn : n ≤ 24) : SumOk a := sumOk_of (D := 36 * K24) (M := 16000) (sz36 (by decide)) h.2 (by rw [h.1]; exact hn)
theorem StBd.wok {n : Nat} {a : List Rat} (h : StBd n a) (hn : n ≤ 24) {ms : List MP} (hm : ∀ m ∈ ms, MBd 60 9 m) (l : ms.length ≤ 24) : WOk ms a :=
  wOk_of (D := 36 * K24) (M := 16000) (E := 60) (N := 9) hm ⟨36 * (K24 / 60), by decide⟩ (by decide) h.2 l (by rw [h.1]; exact hn) (by decide) (sz36w (by decide))
def sp_holds_k96 : Spec := sp_holds (G_holds spN spN spN spN spN spN (sp_use sp_is_bought spN spN)).fn
def sp_w_right_k96 : Spec := fun ss R => ∃ n m : Int, ss = [sPk n, sPk m] ∧ (0 ≤ n ∧ 0 ≤ m) ∧ ∀ n' m' : Int, R (.val (.bl true)) [sPk n', sPk m']
def G_w_right_k96 : Gam := { fn := [("holds", sp_holds_k96), ("paper_store", sp_paper_store), ("_law_under", sp_is_less), ("worth", sp_worth), ("row_of", sp_row_of), ("_law_led", sp_w_right), ("_law_stored_right", sp_w_stored), ("_law_other_plan", sp_w_other), ("_law_measure", sp_w_measure), ("steps", sp_steps), ("cord", sp_cord), ("store_tube", sp_store_tube), ("bought", sp_bought), ("_law_more", sp_added), ("_law_low", sp_number), ("_law_take", sp_w_take), ("_law_needs", sp_w_needs)] }
theorem less_q {n : Int} (hn : 0 ≤ n) : ∃ (n' : Int) (a b : Nat), 0 ≤ n' ∧ n % 20 = (a : Int) ∧ n / 20 % 3 = (b : Int) ∧ n / 20 / 3 = n' ∧ 0 ≤ n / 20 ∧ (b : Int) < 3 ∧ bd 6 20 (Rat.divInt (a : Int) (1 + (b : Int))) ∧ 0 ≤ Rat.divInt (a : Int) (1 + (b : Int)) := by
  obtain ⟨n1, a, e1, a1⟩ := digit hn (show (0 : Int) < 20 by decide)
  obtain ⟨n2, b, e2, b1⟩ := digit n1 (show (0 : Int) < 3 by decide)
  have eb : (1 + (b : Int)) = ((1 + b : Nat) : Int) := by omega
  refine ⟨_, a, b, n2, e1, e2, rfl, n1, b1, ?_, ?_⟩
  · rw [eb]
    refine bd_frac (by omega) ?_ (by omega)
    have : b = 0 ∨ b = 1 ∨ b = 2 := by omega
    rcases this with h | h | h <;> subst h <;> decide
  · rw [eb]; exact divInt_nonneg (by omega) (by omega)
theorem b_w_right_k96 : Body G_w_right_k96 13 2 c_w_right_k96 sp_w_right_k96 := ⟨by
  rintro _ R ⟨n, m, rfl, ⟨hn, hm⟩, hR⟩
  refine ⟨rfl, ⟨.inr rfl, .inr rfl, by simp⟩, ?_⟩
  show wpSs _ _ [sPk n, sPk m, .non, .non, .non, .non, .non, .non, .non, .non, .non, .non, .non] _
  simp [c_w_right_k96, G_w_right_k96, -o_ix]
  refine ⟨n, 10, rfl, ⟨hn, by decide, by decide⟩, fun q n1 p1 l1 l2 bq => ?_⟩
  obtain ⟨m1, a, b, k1, k2, k3, k4, k5, k6, bl, l0⟩ := less_q hm
  obtain ⟨m2, a', b', k1', k2', k3', k4', k5', k6', bl', l0'⟩ := less_q k1
  simp [hm, k2, k3, k5, k4, k2', k3', k5', k4', -o_ix]
  generalize Rat.divInt (a : Int) (1 + (b : Int)) = less at bl l0 ⊢
  generalize Rat.divInt (a' : Int) (1 + (b' : Int)) = more at bl' l0' ⊢
  have g9 : ∀ c : Nat, c < 3 → ¬ (1 + (c : Int)) = 0 ∧ (1 + (c : Int)).natAbs < 2 ^ 9000 := fun c hc => ⟨by omega, lt_9k (lt_100 (by omega))⟩
  obtain ⟨u1, u2⟩ := g9 b (by omega)
  obtain ⟨u3, u4⟩ := g9 b' (by omega)
  have bl36 := bd_dvd bl (show 6 ∣ 36 by decide)
  have bm36 := bd_dvd bl' (show 6 ∣ 36 by decide)
  have r0 : 0 ≤ less + more := by grind
  have le : less ≤ less + more := by grind
  have br : bd 36 40 (less + more) := bd_add bl36 bm36
  refine ⟨u1, u2, k1, u3, u4, sm36 bl36 (by decide), sm36 bm36 (by decide), ?_⟩
  generalize less + more = room at r0 le br ⊢
  have l24 : q.length ≤ 24 := by omega
  have O0 := stOk36 l1 l24 bq (bd_zero (D := 36) (M := 40)) Rat.le_refl
  have O1 := stOk36 l1 l24 bq (bd_le bl36 (by decide)) l0
  have O2 := stOk36 l1 l24 bq br r0
  have q0 : ∀ x ∈ q, 0 ≤ x := fun x hx => (bq x hx).2
  have bq36 : ∀ x ∈ q, bd 36 12 x := fun x hx => bd_dvd (bq x hx).1 (by decide)
  rw [nD_zero]
  refine ⟨36, 4000, q, 0, rfl, O0, fun c0 n0 t0 y0 => ?_⟩
  have S0 : SRow q 0 c0 := ⟨n0, t0⟩
  simp [-o_ix]
  refine ⟨36, 4000, q, less, rfl, O1, fun c1 n1' t1 y1 => ?_⟩
  have S1 : SRow q less c1 := ⟨n1', t1⟩
  simp [-o_ix]
  refine ⟨36, 4000, q, room, rfl, O2, fun c2 n2' t2 y2 => ?_⟩
  have S2 : SRow q room c2 := ⟨n2', t2⟩
  have e0 := S0.none l1
  simp [-o_ix]
  rw [e0]
  have i0 : atI [q, stepsL c1, stepsL c2] 0 = some q := rfl
  have i1 : atI [q, stepsL c1, stepsL c2] 1 = some (stepsL c1) := rfl
  have i2 : atI [q, stepsL c1, stepsL c2] 2 = some (stepsL c2) := rfl
  refine ix_map (f := rowD) (xs := [q, stepsL c1, stepsL c2]) (by simp) _ i0 ?_
  simp [-o_ix]
  have sm36' : ∀ {x : Rat}, bd 36 4000 x → sm x := fun h => sm36 h (by decide)
  refine ⟨q, room, rfl, ⟨l1, l24, sm36' O2.ok.bp, r0, fun x hx => ⟨sm36' (O2.ok.bx x hx), q0 x hx⟩, fun k hk => sm36' (O2.ok.bS k hk)⟩, ?_⟩
  simp [-o_ix]
  have T2 := O2.tub
  refine ⟨36, 4000 + 4000, stTube q room, rfl, T2, fun d2 n3' t3 y3 => ?_⟩
  rw [stTube_length] at n3' t3
  have S3 : SRow q room d2 := ⟨n3', t3⟩
  have e3 := S2.same S3 l1
  subst e3
  simp [-o_ix]
  have smb : ∀ {r : List Rat}, (∀ y ∈ r, bd (36 * K24) (4000 + 4000) y) → ∀ y ∈ r, sm y := fun h y hy => (sz36 (M := 8000) (by decide)).sm (h y hy) (by decide)
  refine ⟨⟨by omega, by omega, smb y3⟩, ?_⟩
  refine ix_map (f := rowD) (xs := [q, stepsL c1, stepsL d2]) (by simp) _ i2 ?_
  simp [-o_ix]
  refine ix_map (f := rowD) (xs := [q, stepsL c1, stepsL d2]) (by simp) _ i1 ?_
  have B0 : StBd q.length q := ⟨rfl, fun x hx => bd_le (bd24 (bq36 x hx)) (by decide)⟩
  have B1 := StBd.row S1 y1
  have B2 := StBd.row S2 y3
  -- what the walk of the stored asks
  have stok : ∀ {p : Rat} {x : List Rat}, bd 36 40 p → StBd q.length x → x.length = q.length ∧ q.length ≤ 1000 ∧ sm p ∧ (∀ y ∈ q, sm y) ∧ (∀ y ∈ x, sm y) ∧ ∀ k, k ≤ q.length → sm (Sm x k - Sm q k) ∧ sm (Sm x (k + 1) - Sm q k) := fun {p x} hp hx => by
    have z : ∀ {v : Rat} {N : Nat}, bd (36 * K24) N v → N ≤ 1000000 → sm v := fun h hN => (sz36 (M := 1000000) (by decide)).sm h (by omega)
    have lx := hx.1
    refine ⟨lx, by omega, sm36 hp (by decide), fun y hy => sm36' (O2.ok.bx y hy), fun y hy => z (hx.2 y hy) (by decide), fun k hk => ?_⟩
    have s1 := fun k => Sm_bd hx.2 (by omega) k
    have s2 := Sm_bd B0.2 (by omega) k
    exact ⟨z (bd_sub (s1 k) s2) (by decide), z (bd_sub (s1 (k + 1)) s2) (by decide)⟩
  simp [-o_ix]
  refine ⟨stok (bd_le bl36 (by decide)) B1, ?_⟩
  rw [show storedB q less (stepsL c1) = true from yes_yes (S1.stored l1 l0 q0)]
  simp [-o_ix]
  refine ix_map (f := rowD) (xs := [q, stepsL c1, stepsL d2]) (by simp) _ i2 ?_
  simp [-o_ix]
  refine ⟨stok br B2, ?_⟩
  rw [show storedB q room (stepsL d2) = true from yes_yes (S2.stored l1 r0 q0)]
  simp [-o_ix]
  refine ix_map (f := rowD) (xs := [q, stepsL c1, stepsL d2]) (by simp) _ i0 ?_
  simp [-o_ix]
  refine ix_map (f := rowD) (xs := [q, stepsL c1, stepsL d2]) (by simp) _ i1 ?_
  simp [-o_ix]
  have led01 : Led q (stepsL c1) := by
    have := S1.led (r := c0) l1 n0 (S0.wide l1 l0)
    rwa [e0] at this
  have led12 : Led (stepsL c1) (stepsL d2) := S2.led l1 n1' (S1.wide l1 le)
  have right : ∀ {x y : List Rat}, StBd q.length x → StBd q.length y → Led x y → SzOk (36 * K24) (24 * 16000) ∧ x.length = y.length ∧ 1 ≤ x.length ∧ x.length ≤ 24 ∧ (∀ z ∈ x, bd (36 * K24) 16000 z) ∧ (∀ z ∈ y, bd (36 * K24) 16000 z) ∧ Led x y := fun {x y} hx hy L => ⟨sz36 (by decide), by rw [hx.1, hy.1], by rw [hx.1]; exact l1, by rw [hx.1]; exact l24, hx.2, hy.2, L⟩
  refine ⟨36 * K24, 16000, _, _, rfl, right B0 B1 led01, ?_⟩
  simp [-o_ix]
  refine ix_map (f := rowD) (xs := [q, stepsL c1, stepsL d2]) (by simp) _ i1 ?_
  simp [-o_ix]
  refine ix_map (f := rowD) (xs := [q, stepsL c1, stepsL d2]) (by simp) _ i2 ?_
  simp [-o_ix]
  refine ⟨36 * K24, 16000, _, _, rfl, right B1 B2 led12, ?_⟩
  simp [-o_ix]
  refine ⟨m2, 4, 9, rfl, ⟨k1', by decide, by decide, rfl⟩, fun ms m3 p3 ml1 ml2 mb => ?_⟩
  simp [-o_ix]
  refine ⟨m3, q, less, rfl, ⟨p3, l24, bq, bl, l0⟩, fun x m4 p4 lx bx => ?_⟩
  have Bx : StBd q.length x := ⟨lx, fun y hy => bd_le (bd24 (bx y hy)) (by decide)⟩
  simp [-o_ix]
  refine ix_map (f := rowD) (xs := [q, stepsL c1, stepsL d2]) (by simp) _ i1 ?_
  simp [-o_ix]
  refine ix_map (f := rowD) (xs := [q, stepsL c1, stepsL d2]) (by simp) _ i2 ?_
  simp [-o_ix]
  refine ⟨stok (bd_le bl36 (by decide)) Bx, ?_⟩
  have pairs : ∃ (ps : List (List Rat × List Rat)) (c : Bool), storedB q less x = c ∧ (ps = if c = true then [(stepsL c1, stepsL d2), (x, stepsL c1)] else [(stepsL c1, stepsL d2)]) ∧ ∀ p ∈ ps, StBd q.length p.1 ∧ StBd q.length p.2 ∧ Led p.1 p.2 := by
    refine ⟨_, _, rfl, rfl, ?_⟩
    cases c : storedB q less x
    · intro p hp
      rw [if_neg (by simp)] at hp
      rw [List.mem_singleton.mp hp]
      exact ⟨B1, B2, led12⟩
    · intro p hp
      rw [if_pos rfl] at hp
      rcases List.mem_cons.mp hp with e | e
      · rw [e]; exact ⟨B1, B2, led12⟩
      · rw [List.mem_singleton.mp e]
        refine ⟨Bx, B1, ?_⟩
        have := S1.led (r := sumsL x) l1 (by rw [rowF_length, lx]) (stored_in l1 lx l0 (yes_iff.mp c))
        rwa [sumsL_steps] at this
  obtain ⟨ps, c, ec, eps, hps⟩ := pairs
  rw [ec]
  let pairD2 : List Rat × List Rat → DL.D := fun p => .tup [rowD p.1, rowD p.2]
  have l6 : ms.length ≤ 6 := by omega
  have mok : MsOk ms := ⟨ml1, l6, fun m hm => ⟨sm60 (mb m hm).w (by decide), (mb m hm).w0⟩⟩
  cases c
  case' true =>
    simp [-o_ix]
    refine ix_map (f := rowD) (xs := [q, stepsL c1, stepsL d2]) (by simp) _ i1 ?_
    simp [-o_ix]
    rw [if_pos rfl] at eps
    have el : [DL.D.tup [rowD (stepsL c1), rowD (stepsL d2)], DL.D.tup [rowD x, rowD (stepsL c1)]] = ps.map pairD2 := by rw [eps]; rfl
    rw [el]
  case' false =>
    simp [-o_ix]
    rw [if_neg (by simp)] at eps
    have el : [DL.D.tup [rowD (stepsL c1), rowD (stepsL d2)]] = ps.map pairD2 := by rw [eps]; rfl
    rw [el]
  all_goals
    clear el eps
    refine fr_rule ⟨ps.map pairD2, [(.slot 8, ps.map pairD2)]⟩ [sPk n1, sPk m4, vR q, vN less, vN room, .fd (.lst [rowD q, rowD (stepsL c1), rowD (stepsL d2)]), vMs ms, vR x, .fd (.lst (ps.map pairD2)), .non, .non, .non, .non] (fun K hK => hK) rfl ?_
    refine for_map pairD2 ps (fun i ρ => ∃ s9 s10, ρ = [sPk n1, sPk m4, vR q, vN less, vN room, .fd (.lst [rowD q, rowD (stepsL c1), rowD (stepsL d2)]), vMs ms, vR x, .fd (.lst (ps.map pairD2)), s9, s10, .non, .non]) ⟨_, _, rfl⟩ ?_ ?_
    · rintro i ⟨g, h⟩ ρ K hx ⟨s9, s10, rfl⟩
      refine ⟨fun z hz => by simp at hz; subst hz; rfl, fun hK => ?_⟩
      obtain ⟨G1, G2, L⟩ := hps (g, h) (List.mem_of_getElem? hx)
      simp only at G1 G2 L
      have S1' := G1.sums l24
      have S2' := G2.sums l24
      have gl : g.length = q.length := G1.1
      have hl' : h.length = q.length := G2.1
      simp [frStep_eq, pairD2, -o_ix]
      refine ⟨36 * K24, 16000, _, _, rfl, right G1 G2 L, ?_⟩
      simp [-o_ix]
      rw [nD_zero]
      simp [-o_ix]
      have ro : ∀ {y : List Rat}, StBd q.length y → (1 ≤ y.length ∧ y.length ≤ 24 ∧ (∀ z ∈ y, sm z) ∧ ∀ k, k ≤ y.length → sm (0 + Sm y k)) ∧ MsOk ms ∧ 2 ≤ (rowF 0 y y.length).length ∧ (rowF 0 y y.length).length ≤ 25 ∧ (∀ z ∈ rowF 0 y y.length, sm z) ∧ WOk ms (stepsL (rowF 0 y y.length)) := fun {y} hy => by
        have S := hy.sums l24
        have ly := hy.1
        refine ⟨⟨by omega, by omega, S.x, fun k hk => by rw [Rat.zero_add]; exact S.s k hk⟩, mok, by rw [rowF_length]; omega, by rw [rowF_length]; omega, sums_sm S, ?_⟩
        rw [sumsL_steps]
        exact hy.wok l24 mb (by omega)
      have ws : ∀ {y : List Rat}, StBd q.length y → sm (worthL ms (stepsL (rowF 0 y y.length))) := fun {y} hy => by
        have W := (ro hy).2.2.2.2.2
        have := W.t.s (stepsL (rowF 0 y y.length)).length (by rw [List.length_map]; exact Nat.le_refl _)
        unfold Sm at this
        rw [List.take_of_length_le (by rw [List.length_map]; exact Nat.le_refl _)] at this
        exact this
      refine ⟨(ro G1).1, (ro G1).2, ?_⟩
      rw [nD_zero]
      simp [-o_ix]
      refine ⟨(ro G2).1, (ro G2).2, ws G1, ws G2, ?_⟩
      have fall : ¬ worthL ms (stepsL (rowF 0 g g.length)) < worthL ms (stepsL (rowF 0 h h.length)) := by
        rw [sumsL_steps, sumsL_steps]
        exact Rat.not_lt.mpr (worth_led (fun m hm => (mb m hm).w0) L (by omega))
      simp [fall, -o_ix]
      exact hK _ ⟨_, _, rfl⟩
    · rintro ρ ⟨s9, s10, rfl⟩
      refine ⟨fun z hz => by simp at hz; subst hz; rfl, ?_⟩
      simp [-o_ix]
      refine ⟨36, 4000, q, less, rfl, O1, fun d3 n4' t4 y4 => ?_⟩
      have S4 : SRow q less d3 := ⟨n4', t4⟩
      have e4 := S1.same S4 l1
      subst e4
      simp [-o_ix]
      -- a claim of the store
      have claim : ∀ {y : List Rat} {c : Bool} (K : Fd → List Sl → Prop), StBd q.length y → tautB (stTube q less) (sumsL y) = c → K (.val (.bl c)) [vD (.tup [.str "store", rowD q, nD less, rowD y]), vD .non] → sp_holds_k96 [vD (.tup [.str "store", rowD q, nD less, rowD y]), vD .non] K := fun {y c} K hy hc hK => by
        refine ⟨9, 6, ("store", 4, "use_claim"), sp_use sp_is_bought spN spN, [rowD q, nD less, rowD y], .non, rfl, rfl, rfl, ⟨rfl, okD_ly (n := 5) ?_ (by decide)⟩, ?_⟩
        · simp [lyD, lyDs, ly_row, ly_nD]
          decide +kernel
        · refine ⟨_, rfl, .inl ⟨rowD q, nD less, rowD y, rfl, ?_⟩⟩
          refine ⟨36, 4000, q, less, y, rfl, ⟨O1, hy.1, B0.sums l24, hy.sums l24⟩, ?_⟩
          rw [hc]
          exact ⟨rfl, ⟨_, rfl⟩, rfl, hK⟩
      have own : tautB (stTube q less) (sumsL (stepsL d3)) = true := by
        rw [S4.sums l1]
        refine yes_yes ?_
        rw [stTube_length]
        exact t4
      refine claim _ B1 own ?_
      simp [-o_ix]
      have sl3 : ∀ (ρ : Env) (a b c d : DL.D) (Q : QE), wpSl ρ (.val (.tup [a, b, c, d])) none (some 3) Q = Q (.val (.tup [a, b, c])) ρ := fun _ _ _ _ _ _ => rfl
      rw [sl3]
      simp [-o_ix]
      refine claim _ Bx rfl ?_
      simp [-o_ix]
      refine ix_map (f := rowD) (xs := [q, stepsL d3, stepsL d2]) (by simp) _ i1 ?_
      simp [-o_ix]
      have key : tautB (stTube q less) (sumsL x) = decide (x = stepsL d3) := by
        symm
        refine yes_of ?_
        rw [decide_eq_true_iff]
        constructor
        · intro e
          rw [e, S4.sums l1, stTube_length]
          exact t4
        · intro T
          rw [stTube_length] at T
          have S5 : SRow q less (sumsL x) := ⟨by rw [rowF_length, lx], T⟩
          rw [← S4.same S5 l1, sumsL_steps]
      rw [key]
      simp
      exact hR _ _⟩
theorem b_law_k96 : Body { fn := [("_law_right", sp_w_right_k96), ("_law_pack", sp_w_pack)] } 2 1 c_law_k96 sp_law := ⟨by
  rintro _ R ⟨ns, rfl, ⟨hl, hb⟩, hR⟩
  refine ⟨rfl, by simp, ?_⟩
  show wpSs _ _ [vSc ns, .non] _
  simp [c_law_k96, -o_ix]
  obtain ⟨m, em, m1, m2⟩ : ∃ m : Nat, max 1 (min (ns.length : Int) 8) = (m : Int) ∧ 1 ≤ m ∧ m ≤ 8 := ⟨max 1 (min ns.length 8), by omega, by omega, by omega⟩
  obtain ⟨cnt, c3, rg⟩ : ∃ n, n ≤ 4 ∧ RgC 0 (m : Int) 2 n := by
    refine ⟨(m + 1) / 2, by omega, by decide, by decide, ?_, ?_⟩
    · have : m = 1 ∨ m = 2 ∨ m = 3 ∨ m = 4 ∨ m = 5 ∨ m = 6 ∨ m = 7 ∨ m = 8 := by omega
      rcases this with h | h | h | h | h | h | h | h <;> subst h <;> decide
    · have : m = 1 ∨ m = 2 ∨ m = 3 ∨ m = 4 ∨ m = 5 ∨ m = 6 ∨ m = 7 ∨ m = 8 := by omega
      rcases this with h | h | h | h | h | h | h | h <;> subst h <;> decide
  refine fr_rule ⟨intsC 0 2 cnt, []⟩ [vSc ns, .non] (fun K hK => ?_) rfl ?_
  · rw [r3_it]
    simp [em]
    exact ⟨cnt, rg, hK⟩
  refine for_map (fun k : Nat => DL.D.int (0 + (k : Int) * 2)) (List.range cnt) (fun i ρ => ∃ s1, ρ = [vSc ns, s1]) ⟨_, rfl⟩ ?_ ?_
  · rintro i x ρ K hx ⟨s1, rfl⟩
    refine ⟨still_nil _, fun hK => ?_⟩
    have hi : x < cnt := List.mem_range.mp (List.mem_of_getElem? hx)
    simp [frStep_eq, -o_ix]
    obtain ⟨k, ek, k12⟩ : ∃ k : Nat, (x : Int) * 2 = (k : Int) ∧ k ≤ 8 := ⟨x * 2, by omega, by omega⟩
    rw [ek]
    refine ⟨ns, k, rfl, ⟨hl, by omega, hb⟩, fun n1 p1 => ?_⟩
    simp [-o_ix]
    refine ⟨ns, k + 10, rfl, ⟨hl, by omega, hb⟩, fun n2 p2 => ?_⟩
    simp [-o_ix]
    refine ⟨n1, n2, rfl, ⟨p1, p2⟩, fun n3 n4 => ?_⟩
    simp
    exact hK _ ⟨_, rfl⟩
  · rintro ρ ⟨s1, rfl⟩
    refine ⟨still_nil _, ?_⟩
    simp
    exact hR⟩
def G_law_k96 : Gam := { fn := [("_law_right", sp_w_right_k96), ("_law_pack", sp_w_pack)] }
end DL

/-! DP12 -/
namespace DL
open PySem PySem.Spec PyProof.Rows L2 LC

/-! ## law k96: the checker's table -/
theorem mono_N : Mono spN := fun _ _ _ _ h => h.elim
theorem mono_bought : Mono sp_is_bought := fun ss R R' f ⟨D, M, q, p, x, e, h, hR⟩ => ⟨D, M, q, p, x, e, h, f _ _ hR⟩
theorem mono_use {S1 S2 S3 : Spec} (m1 : Mono S1) (m2 : Mono S2) (m3 : Mono S3) : Mono (sp_use S1 S2 S3) := fun ss R R' f ⟨c, e, h⟩ => ⟨c, e, by
  rcases h with ⟨a, b, d, e, h⟩ | ⟨a, b, e, h⟩ | ⟨a, b, d, e, h⟩
  · exact .inl ⟨a, b, d, e, m1 _ _ _ (fun r s h => ⟨h.1, f _ _ h.2⟩) h⟩
  · exact .inr (.inl ⟨a, b, e, m2 _ _ _ (fun r s h => ⟨h.1, f _ _ h.2⟩) h⟩)
  · exact .inr (.inr ⟨a, b, d, e, m3 _ _ _ (fun r s h => ⟨h.1, f _ _ h.2⟩) h⟩)⟩
theorem val_N : ∀ ss (R : Fd → List Sl → Prop), spN ss R → spN ss fun r s => (∃ d, r = .val d) ∧ R r s := fun _ _ h => h.elim
theorem val_bought : ∀ ss (R : Fd → List Sl → Prop), sp_is_bought ss R → sp_is_bought ss fun r s => (∃ d, r = .val d) ∧ R r s := fun ss R ⟨D, M, q, p, x, e, h, hR⟩ => ⟨D, M, q, p, x, e, h, ⟨_, rfl⟩, hR⟩
theorem b_use_k96 : Body (G_use sp_is_bought spN spN) 2 2 c_use_claim (sp_use sp_is_bought spN spN) := b_use mono_bought mono_N mono_N val_bought val_N val_N
theorem b_holds_k96 : Body (G_holds spN spN spN spN spN spN (sp_use sp_is_bought spN spN)) 5 2 c_holds sp_holds_k96 := b_holds fun p hp => by
  simp [G_holds] at hp
  rcases hp with rfl | rfl | rfl | rfl | rfl | rfl | rfl
  · exact mono_N
  · exact mono_N
  · exact mono_N
  · exact mono_N
  · exact mono_N
  · exact mono_N
  · exact mono_use mono_bought mono_N mono_N
end DL

namespace DL
open PySem PySem.Spec PyProof.Rows L2
def topS (i : Nat) : Stmt := PySem.Challenge.pw_levelcord_k96_whole_stores_by_rooms.main.body.getD i (.Pass ⟨0, 0, 0, 0⟩)
theorem ck_law_k96 : ckDefN ["_law_right", "_law_pack"] [] [] [] N_law_k96 p_law_k96 c_law_k96 (topS 137) = true := by decide +kernel
theorem ck_w_right_k96 : ckDefN ["holds", "paper_store", "_law_under", "worth", "row_of", "_law_led", "_law_stored_right", "_law_other_plan", "_law_measure", "steps", "cord", "store_tube", "bought", "_law_more", "_law_low", "_law_take", "_law_needs"] [] [] [] N_w_right_k96 p_w_right_k96 c_w_right_k96 (topS 136) = true := by decide +kernel
theorem ck_w_needs : ckDefN ["_law_take", "_law_low"] [] [] [] N_w_needs p_w_needs c_w_needs (topS 131) = true := by decide +kernel
theorem ck_w_take : ckDefN [] [] [] [] N_w_take p_w_take c_w_take (topS 124) = true := by decide +kernel
theorem ck_w_low : ckDefN [] [] [] [] N_w_low p_w_low c_w_low (topS 125) = true := by decide +kernel
theorem ck_w_more : ckDefN ["_law_low"] [] [] [] N_w_more p_w_more c_w_more (topS 126) = true := by decide +kernel
theorem ck_w_measure : ckDefN ["_law_take", "_law_number", "_law_low"] [] [] [] N_w_measure p_w_measure c_w_measure (topS 132) = true := by decide +kernel
theorem ck_w_number : ckDefN ["_law_low", "_law_take"] [] [] [] N_w_number p_w_number c_w_number (topS 130) = true := by decide +kernel
theorem ck_w_other_plan : ckDefN ["_law_less_by", "_law_more", "_law_under", "_law_by", "_law_take"] [] [] [] N_w_other_plan p_w_other_plan c_w_other_plan (topS 134) = true := by decide +kernel
theorem ck_w_by : ckDefN ["_law_low"] [] [] [] N_w_by p_w_by c_w_by (topS 128) = true := by decide +kernel
theorem ck_w_under : ckDefN [] [] [] [] N_w_under p_w_under c_w_under (topS 129) = true := by decide +kernel
theorem ck_w_less_by : ckDefN ["_law_low"] [] [] [] N_w_less_by p_w_less_by c_w_less_by (topS 127) = true := by decide +kernel
theorem ck_w_stored_right : ckDefN ["_law_under", "_law_less_by", "_law_more"] [] [] [] N_w_stored_right p_w_stored_right c_w_stored_right (topS 133) = true := by decide +kernel
theorem ck_paper_store : ckDefN ["bought"] [] [] [] N_paper_store p_paper_store c_paper_store (topS 120) = true := by decide +kernel
theorem ck_bought : ckDefN ["steps", "cord", "store_tube"] [] [] [] N_bought p_bought c_bought (topS 48) = true := by decide +kernel
theorem ck_steps : ckDefN ["taken", "check_plain_row"] [] [] [] N_steps p_steps c_steps (topS 34) = true := by decide +kernel
theorem ck_check_plain_row : ckDefN ["are_numbers_tubes"] ["MOST_PLACES"] [] [] N_check_plain_row p_check_plain_row c_check_plain_row (topS 33) = true := by decide +kernel
theorem ck_are_numbers : ckDefN ["is_number"] [] [] [] N_are_numbers p_are_numbers c_are_numbers (topS 29) = true := by decide +kernel
theorem ck_is_number : ckDefN ["common", "is_whole"] [] [] [] N_is_number p_is_number c_is_number (topS 13) = true := by decide +kernel
theorem ck_common : ckDefN [] [] [] [] N_common p_common c_common (topS 12) = true := by decide +kernel
theorem ck_is_whole : ckDefN [] [] [] [] N_is_whole p_is_whole c_is_whole (topS 11) = true := by decide +kernel
theorem ck_taken : ckDefN ["number"] [] [] [] N_taken p_taken c_taken (topS 17) = true := by decide +kernel
theorem ck_number : ckDefN ["common"] [] [] [] N_number p_number c_number (topS 14) = true := by decide +kernel
theorem ck_cord : ckDefN ["drawn", "check_tied"] [] [] [] N_cord p_cord c_cord (topS 42) = true := by decide +kernel
theorem ck_check_tied : ckDefN ["is_tied"] [] [] [] N_check_tied p_check_tied c_check_tied (topS 28) = true := by decide +kernel
theorem ck_is_tied : ckDefN ["is_tube"] [] [] [] N_is_tied p_is_tied c_is_tied (topS 26) = true := by decide +kernel
theorem ck_is_tube : ckDefN ["is_pair"] ["MOST_PLACES"] [] [] N_is_tube p_is_tube c_is_tube (topS 25) = true := by decide +kernel
theorem ck_is_pair : ckDefN ["is_less", "is_number"] [] [] [] N_is_pair p_is_pair c_is_pair (topS 24) = true := by decide +kernel
theorem ck_is_less : ckDefN [] [] [] [] N_is_less p_is_less c_is_less (topS 20) = true := by decide +kernel
theorem ck_drawn : ckDefN ["drawn_to", "touch_behind"] [] [] [] N_drawn p_drawn c_drawn (topS 41) = true := by decide +kernel
theorem ck_touch_behind : ckDefN [] [] [(.Reach, "Reach")] [(.Reach, "take")] N_touch_behind p_touch_behind c_touch_behind (topS 39) = true := by decide +kernel
theorem ck_Reach___init__ : ckDefN [] [] [] [] N_Reach___init__ p_Reach___init__ c_Reach___init__ (inClass (topS 38) 0) = true := by decide +kernel
theorem ck_Reach_crossed : ckDefN ["is_less"] [] [] [] N_Reach_crossed p_Reach_crossed c_Reach_crossed (inClass (topS 38) 1) = true := by decide +kernel
theorem ck_Reach_take : ckDefN ["is_less", "slope_to"] [] [] [(.Reach, "crossed")] N_Reach_take p_Reach_take c_Reach_take (inClass (topS 38) 2) = true := by decide +kernel
theorem ck_slope_to : ckDefN ["parted", "whole", "taken"] [] [] [] N_slope_to p_slope_to c_slope_to (topS 37) = true := by decide +kernel
theorem ck_parted : ckDefN ["number"] [] [] [] N_parted p_parted c_parted (topS 19) = true := by decide +kernel
theorem ck_whole : ckDefN [] [] [] [] N_whole p_whole c_whole (topS 15) = true := by decide +kernel
theorem ck_drawn_to : ckDefN ["added"] [] [] [] N_drawn_to p_drawn_to c_drawn_to (topS 40) = true := by decide +kernel
theorem ck_added : ckDefN ["number"] [] [] [] N_added p_added c_added (topS 16) = true := by decide +kernel
theorem ck_store_tube : ckDefN ["added", "check_store"] ["NOUGHT"] [] [] N_store_tube p_store_tube c_store_tube (topS 47) = true := by decide +kernel
theorem ck_check_store : ckDefN ["is_amount"] ["MOST_NEEDS"] [] [] N_check_store p_check_store c_check_store (topS 46) = true := by decide +kernel
theorem ck_is_amount : ckDefN ["is_number"] [] [] [] N_is_amount p_is_amount c_is_amount (topS 45) = true := by decide +kernel
theorem ck_w_led_2 : ckDefN ["levelled", "between"] [] [] [] N_w_led_2 p_w_led_2 c_w_led_2 (topS 135) = true := by decide +kernel
theorem ck_between : ckDefN ["check_steps"] [] [(.Levels, "Levels")] [(.Levels, "put_right"), (.Levels, "evened")] N_between p_between c_between (topS 95) = true := by decide +kernel
theorem ck_check_steps : ckDefN ["are_numbers_tubes"] ["MOST_STEPS_levellings"] [] [] N_check_steps p_check_steps c_check_steps (topS 89) = true := by decide +kernel
theorem ck_Levels___init__ : ckDefN [] [] [] [] N_Levels___init__ p_Levels___init__ c_Levels___init__ (inClass (topS 94) 0) = true := by decide +kernel
theorem ck_Levels_give : ckDefN ["added", "taken"] [] [] [] N_Levels_give p_Levels_give c_Levels_give (inClass (topS 94) 1) = true := by decide +kernel
theorem ck_Levels_next_pair : ckDefN ["is_less"] [] [] [] N_Levels_next_pair p_Levels_next_pair c_Levels_next_pair (inClass (topS 94) 2) = true := by decide +kernel
theorem ck_Levels_evened : ckDefN ["is_less", "taken", "falling"] [] [] [(.Levels, "next_pair"), (.Levels, "give")] N_Levels_evened p_Levels_evened c_Levels_evened (inClass (topS 94) 3) = true := by decide +kernel
theorem ck_falling : ckDefN ["is_less"] [] [] [] N_falling p_falling c_falling (topS 93) = true := by decide +kernel
theorem ck_Levels_put_right : ckDefN ["is_less", "taken"] [] [] [(.Levels, "give")] N_Levels_put_right p_Levels_put_right c_Levels_put_right (inClass (topS 94) 4) = true := by decide +kernel
theorem ck_levelled : ckDefN ["added", "taken", "is_levelling", "check_steps"] [] [] [] N_levelled p_levelled c_levelled (topS 92) = true := by decide +kernel
theorem ck_is_levelling : ckDefN ["is_less", "taken", "is_place", "is_number"] ["NOUGHT"] [] [] N_is_levelling p_is_levelling c_is_levelling (topS 91) = true := by decide +kernel
theorem ck_is_place : ckDefN [] [] [] [] N_is_place p_is_place c_is_place (topS 90) = true := by decide +kernel
theorem ck_worth : ckDefN ["steps_worth", "steps", "check_plain_row", "check_measure"] [] [] [] N_worth p_worth c_worth (topS 105) = true := by decide +kernel
theorem ck_check_measure : ckDefN ["is_measure"] [] [] [] N_check_measure p_check_measure c_check_measure (topS 102) = true := by decide +kernel
theorem ck_is_measure : ckDefN ["is_part_measures"] ["MOST_PARTS"] [] [] N_is_measure p_is_measure c_is_measure (topS 101) = true := by decide +kernel
theorem ck_is_part : ckDefN ["is_number", "is_less"] ["NOUGHT", "SIDES"] [] [] N_is_part p_is_part c_is_part (topS 99) = true := by decide +kernel
theorem ck_steps_worth : ckDefN ["added", "total", "part_worth"] ["NOUGHT"] [] [] N_steps_worth p_steps_worth c_steps_worth (topS 104) = true := by decide +kernel
theorem ck_total : ckDefN ["added"] ["NOUGHT"] [] [] N_total p_total c_total (topS 21) = true := by decide +kernel
theorem ck_part_worth : ckDefN ["multiplied", "is_less", "taken"] ["NOUGHT"] [] [] N_part_worth p_part_worth c_part_worth (topS 103) = true := by decide +kernel
theorem ck_multiplied : ckDefN ["number"] [] [] [] N_multiplied p_multiplied c_multiplied (topS 18) = true := by decide +kernel
theorem ck_holds : ckDefN ["taut_claim", "leveller_claim", "no_leveller_claim", "not_taut_claim", "smooth_claim", "settled_claim", "use_claim"] ["CLAIMS"] [] [] N_holds p_holds c_holds (topS 118) = true := by decide +kernel
theorem ck_taut_claim : scB N_taut_claim p_taut_claim (defScope (topS 110)) = true := by decide +kernel
theorem ck_leveller_claim : scB N_leveller_claim p_leveller_claim (defScope (topS 111)) = true := by decide +kernel
theorem ck_no_leveller_claim : scB N_no_leveller_claim p_no_leveller_claim (defScope (topS 112)) = true := by decide +kernel
theorem ck_not_taut_claim : scB N_not_taut_claim p_not_taut_claim (defScope (topS 113)) = true := by decide +kernel
theorem ck_smooth_claim : scB N_smooth_claim p_smooth_claim (defScope (topS 114)) = true := by decide +kernel
theorem ck_settled_claim : scB N_settled_claim p_settled_claim (defScope (topS 115)) = true := by decide +kernel
theorem ck_use_claim : ckDefN ["are_done", "are_speeds", "is_bought"] [] [] [] N_use_claim p_use_claim c_use_claim (topS 116) = true := by decide +kernel
theorem ck_are_done : scB N_are_done p_are_done (defScope (topS 86)) = true := by decide +kernel
theorem ck_is_bought : ckDefN ["is_cord", "sums_of", "store_bounds", "are_steps", "is_price", "are_numbers_bendchecks"] [] [] [] N_is_bought p_is_bought c_is_bought (topS 78) = true := by decide +kernel
theorem ck_is_cord : ckDefN ["is_tied", "is_row", "bends_right"] [] [] [] N_is_cord p_is_cord c_is_cord (topS 58) = true := by decide +kernel
theorem ck_is_row : ckDefN ["is_within", "are_numbers_tubes", "check_tube"] [] [] [] N_is_row p_is_row c_is_row (topS 32) = true := by decide +kernel
theorem ck_check_tube : ckDefN ["is_tube"] [] [] [] N_check_tube p_check_tube c_check_tube (topS 27) = true := by decide +kernel
theorem ck_is_within : ckDefN ["is_less"] [] [] [] N_is_within p_is_within c_is_within (topS 31) = true := by decide +kernel
theorem ck_bends_right : ckDefN ["bend_right", "steps_of"] [] [] [] N_bends_right p_bends_right c_bends_right (topS 57) = true := by decide +kernel
theorem ck_steps_of : ckDefN ["taken"] [] [] [] N_steps_of p_steps_of c_steps_of (topS 56) = true := by decide +kernel
theorem ck_bend_right : ckDefN ["is_less"] [] [] [] N_bend_right p_bend_right c_bend_right (topS 55) = true := by decide +kernel
theorem ck_store_bounds : ckDefN ["added", "sums_of"] ["NOUGHT"] [] [] N_store_bounds p_store_bounds c_store_bounds (topS 77) = true := by decide +kernel
theorem ck_sums_of : ckDefN ["added"] ["NOUGHT"] [] [] N_sums_of p_sums_of c_sums_of (topS 69) = true := by decide +kernel
theorem ck_are_steps : ckDefN ["are_numbers_bendchecks"] ["MOST_STEPS_bendchecks"] [] [] N_are_steps p_are_steps c_are_steps (topS 54) = true := by decide +kernel
theorem ck_are_numbers_2 : ckDefN ["is_number"] [] [] [] N_are_numbers_2 p_are_numbers_2 c_are_numbers_2 (topS 52) = true := by decide +kernel
theorem ck_is_price_2 : ckDefN ["is_number"] [] [] [] N_is_price_2 p_is_price_2 c_is_price_2 (topS 67) = true := by decide +kernel
theorem ck_are_speeds : scB N_are_speeds p_are_speeds (defScope (topS 82)) = true := by decide +kernel
theorem ck_row_of : ckDefN ["added", "are_numbers_tubes", "is_number"] ["MOST_PLACES"] [] [] N_row_of p_row_of c_row_of (topS 35) = true := by decide +kernel
theorem ck_w_pack_2 : ckDefN ["_law_mixed"] [] [] [] N_w_pack_2 p_w_pack_2 c_w_pack_2 (topS 123) = true := by decide +kernel
theorem ck_w_mixed_2 : ckDefN [] [] [] [] N_w_mixed_2 p_w_mixed_2 c_w_mixed_2 (topS 122) = true := by decide +kernel
end DL

set_option maxHeartbeats 0
namespace DL
open PySem PySem.Spec PyProof.Rows L2 He
abbrev R : PySem.W.OpenRow := PySem.W.OpenLaw.row PySem.Challenge.rw_levelcord_k96_whole_stores_by_rooms
abbrev T : Txt where
  fa := [.glo "law", .glo "_law_right", .glo "_law_needs", .glo "_law_take", .glo "_law_low", .glo "_law_more", .glo "_law_measure", .glo "_law_number", .glo "_law_other_plan", .glo "_law_by", .glo "_law_under", .glo "_law_less_by", .glo "_law_stored_right", .glo "paper_store", .glo "bought", .glo "steps", .glo "check_plain_row", .glo "are_numbers_tubes", .glo "is_number", .glo "common", .glo "is_whole", .glo "taken", .glo "number", .glo "cord", .glo "check_tied", .glo "is_tied", .glo "is_tube", .glo "is_pair", .glo "is_less", .glo "drawn", .glo "touch_behind", .glo "slope_to", .glo "parted", .glo "whole", .glo "drawn_to", .glo "added", .glo "store_tube", .glo "check_store", .glo "is_amount", .glo "_law_led", .glo "between", .glo "check_steps", .glo "falling", .glo "levelled", .glo "is_levelling", .glo "is_place", .glo "worth", .glo "check_measure", .glo "is_measure", .glo "is_part_measures", .glo "steps_worth", .glo "total", .glo "part_worth", .glo "multiplied", .glo "holds", .glo "taut_claim", .glo "leveller_claim", .glo "no_leveller_claim", .glo "not_taut_claim", .glo "smooth_claim", .glo "settled_claim", .glo "use_claim", .glo "are_done", .glo "is_bought", .glo "is_cord", .glo "is_row", .glo "check_tube", .glo "is_within", .glo "bends_right", .glo "steps_of", .glo "bend_right", .glo "store_bounds", .glo "sums_of", .glo "are_steps", .glo "are_numbers_bendchecks", .glo "is_price", .glo "are_speeds", .glo "row_of", .glo "_law_pack", .glo "_law_mixed",
    .free "isinstance", .free "len", .free "abs", .free "min", .free "max", .free "tuple", .free "list", .free "all", .free "any", .free "int", .free "divmod", .free "range", .free "zip", .free "enumerate", .free "bool", .free "str", .free "sorted", .free "set",
    .glo "Levels", .cls "Levels", .mkr "Levels", .noat "Levels" "now", .noat "Levels" "goal", .noat "Levels" "made", .meth "Levels" "give", .meth "Levels" "next_pair", .meth "Levels" "evened", .meth "Levels" "put_right",
    .glo "Reach", .cls "Reach", .mkr "Reach", .noat "Reach" "begin", .noat "Reach" "height", .noat "Reach" "most", .noat "Reach" "least", .meth "Reach" "crossed", .meth "Reach" "take"]
  fn := [topD "law" (topS 137), topD "_law_right" (topS 136), topD "_law_needs" (topS 131), topD "_law_take" (topS 124), topD "_law_low" (topS 125), topD "_law_more" (topS 126), topD "_law_measure" (topS 132), topD "_law_number" (topS 130), topD "_law_other_plan" (topS 134), topD "_law_by" (topS 128), topD "_law_under" (topS 129), topD "_law_less_by" (topS 127), topD "_law_stored_right" (topS 133), topD "paper_store" (topS 120), topD "bought" (topS 48), topD "steps" (topS 34), topD "check_plain_row" (topS 33), aliD "are_numbers_tubes" "are_numbers" (topS 29), topD "is_number" (topS 13), topD "common" (topS 12), topD "is_whole" (topS 11), topD "taken" (topS 17), topD "number" (topS 14), topD "cord" (topS 42), topD "check_tied" (topS 28), topD "is_tied" (topS 26), topD "is_tube" (topS 25), topD "is_pair" (topS 24), topD "is_less" (topS 20), topD "drawn" (topS 41), topD "touch_behind" (topS 39), metD "Reach" "__init__" "Reach.__init__" (inClass (topS 38) 0), metD "Reach" "crossed" "Reach.crossed" (inClass (topS 38) 1), metD "Reach" "take" "Reach.take" (inClass (topS 38) 2), topD "slope_to" (topS 37), topD "parted" (topS 19), topD "whole" (topS 15), topD "drawn_to" (topS 40), topD "added" (topS 16), topD "store_tube" (topS 47), topD "check_store" (topS 46), topD "is_amount" (topS 45), topD "_law_led" (topS 135), topD "between" (topS 95), topD "check_steps" (topS 89), metD "Levels" "__init__" "Levels.__init__" (inClass (topS 94) 0), metD "Levels" "give" "Levels.give" (inClass (topS 94) 1), metD "Levels" "next_pair" "Levels.next_pair" (inClass (topS 94) 2), metD "Levels" "evened" "Levels.evened" (inClass (topS 94) 3), topD "falling" (topS 93), metD "Levels" "put_right" "Levels.put_right" (inClass (topS 94) 4), topD "levelled" (topS 92), topD "is_levelling" (topS 91), topD "is_place" (topS 90), topD "worth" (topS 105), topD "check_measure" (topS 102), topD "is_measure" (topS 101), aliD "is_part_measures" "is_part" (topS 99), topD "steps_worth" (topS 104), topD "total" (topS 21), topD "part_worth" (topS 103), topD "multiplied" (topS 18), topD "holds" (topS 118), topD "taut_claim" (topS 110), topD "leveller_claim" (topS 111), topD "no_leveller_claim" (topS 112), topD "not_taut_claim" (topS 113), topD "smooth_claim" (topS 114), topD "settled_claim" (topS 115), topD "use_claim" (topS 116), topD "are_done" (topS 86), topD "is_bought" (topS 78), topD "is_cord" (topS 58), topD "is_row" (topS 32), topD "check_tube" (topS 27), topD "is_within" (topS 31), topD "bends_right" (topS 57), topD "steps_of" (topS 56), topD "bend_right" (topS 55), topD "store_bounds" (topS 77), topD "sums_of" (topS 69), topD "are_steps" (topS 54), aliD "are_numbers_bendchecks" "are_numbers" (topS 52), topD "is_price" (topS 67), topD "are_speeds" (topS 82), topD "row_of" (topS 35), topD "_law_pack" (topS 123), topD "_law_mixed" (topS 122)]
  cs := [("MOST_PLACES", (.int 25)), ("NOUGHT", nD 0), ("MOST_NEEDS", (.int 24)), ("MOST_STEPS_levellings", (.int 24)), ("MOST_PARTS", (.int 6)), ("SIDES", (.tup [(.str "above"), (.str "below")])), ("CLAIMS", (.tup [(.tup [(.str "taut"), (.int 3), (.fn "taut_claim")]), (.tup [(.str "loose"), (.int 3), (.fn "taut_claim")]), (.tup [(.str "ring"), (.int 3), (.fn "taut_claim")]), (.tup [(.str "leveller"), (.int 3), (.fn "leveller_claim")]), (.tup [(.str "no leveller"), (.int 3), (.fn "no_leveller_claim")]), (.tup [(.str "not taut"), (.int 3), (.fn "not_taut_claim")]), (.tup [(.str "smooth"), (.int 4), (.fn "smooth_claim")]), (.tup [(.str "stair"), (.int 3), (.fn "smooth_claim")]), (.tup [(.str "settled"), (.int 3), (.fn "settled_claim")]), (.tup [(.str "store"), (.int 4), (.fn "use_claim")]), (.tup [(.str "speeds"), (.int 3), (.fn "use_claim")]), (.tup [(.str "done"), (.int 4), (.fn "use_claim")])])), ("MOST_STEPS_bendchecks", (.int 24))]
def loose0 : List PySem.Str := ["CordError", "NoNumber", "NoTube", "NoRow", "NoMeasure", "NoLevel", "NoNeeds", "NoRoom", "NOUGHT", "is_whole", "common", "is_number", "number", "whole", "added", "taken"]
def loose1 : List PySem.Str := ["multiplied", "parted", "is_less", "total", "MOST_PLACES", "is_pair", "is_tube", "is_tied", "check_tube", "check_tied", "are_numbers", "are_numbers_tubes", "is_within", "is_row", "check_plain_row", "steps"]
def loose2 : List PySem.Str := ["row_of", "slope_to", "Reach", "touch_behind", "drawn_to", "drawn", "cord", "MOST_NEEDS", "is_amount", "check_store", "store_tube", "bought", "MOST_STEPS_bendchecks", "LEAST_RING", "are_numbers_bendchecks", "are_steps"]
def loose3 : List PySem.Str := ["bend_right", "steps_of", "bends_right", "is_cord", "is_loose", "is_round", "is_touch", "Line", "is_settled", "MOST_JOBS", "MOST_DUE", "is_price", "minus", "sums_of", "jumps_of", "is_held"]
def loose4 : List PySem.Str := ["is_smooth", "is_smoothed", "is_stair_pair", "is_next", "is_stair", "store_bounds", "is_bought", "is_job", "are_jobs", "job_bounds", "are_speeds", "is_part", "is_part_flowchecks", "is_done", "are_done", "MOST_STEPS_levellings"]
def loose5 : List PySem.Str := ["check_steps", "is_place", "is_levelling", "levelled", "falling", "Levels", "between", "SIDES", "MOST_PARTS", "is_part_measures", "is_measure", "check_measure", "part_worth", "steps_worth", "worth", "squares_of"]
def loose6 : List PySem.Str := ["squares", "most_of", "taut_claim", "leveller_claim", "no_leveller_claim", "not_taut_claim", "smooth_claim", "settled_claim", "use_claim", "CLAIMS", "holds", "paper_store", "_law_mixed", "_law_pack", "_law_take", "_law_low"]
def loose7 : List PySem.Str := ["_law_more", "_law_less_by", "_law_by", "_law_under", "_law_number", "_law_needs", "_law_measure", "_law_stored_right", "_law_other_plan", "_law_led", "_law_right"]
abbrev loose : List PySem.Str := loose0 ++ loose1 ++ loose2 ++ loose3 ++ loose4 ++ loose5 ++ loose6 ++ loose7
def adr0 : List Nat := [3, 119, 126, 133, 138, 145, 152, 159, 166, 173, 180, 187, 194, 201, 206, 213]
def adr1 : List Nat := [220, 227, 364, 232, 239, 244, 251, 256, 263, 270, 301, 312, 319, 326, 333, 340]
def adr2 : List Nat := [345, 352, 359, 371, 378, 383, 388, 395, 473, 487, 533, 538, 562, 676, 579, 586]
def adr3 : List Nat := [593, 600, 607, 614, 657, 668, 669, 681, 688, 695, 700, 707, 733, 740, 747, 754]
def adr4 : List Nat := [761, 768, 775, 788, 795, 802, 809, 816, 823, 830, 837, 844, 851, 858, 865, 872]
def adr5 : List Nat := [879, 886, 893, 900, 907, 914, 125, 132, 137, 144, 151, 158, 165, 172, 179, 186]
def adr6 : List Nat := [193, 200, 205, 212, 219, 226, 363, 231, 238, 243, 250, 255, 262, 269, 300, 311]
def adr7 : List Nat := [318, 325, 332, 339, 344, 351, 358, 370, 377, 382, 387, 394, 472, 486, 532, 537]
def adr8 : List Nat := [561, 675, 578, 585, 592, 599, 606, 613, 656, 667, 680, 687, 694, 699, 706, 732]
def adr9 : List Nat := [739, 746, 753, 760, 767, 774, 776, 777, 778, 779, 780, 781, 782, 783, 784, 785]
def adr10 : List Nat := [786, 787, 794, 801, 808, 815, 822, 829, 836, 843, 850, 857, 864, 871, 878, 885]
def adr11 : List Nat := [892, 899, 906, 913, 284, 291, 298, 628, 635, 642, 647, 654, 283, 290, 297, 627]
def adr12 : List Nat := [634, 641, 646, 653]
abbrev adr : List PySem.Addr := adr0 ++ adr1 ++ adr2 ++ adr3 ++ adr4 ++ adr5 ++ adr6 ++ adr7 ++ adr8 ++ adr9 ++ adr10 ++ adr11 ++ adr12
abbrev hk : PySem.W.Hook := T.hook adr
def ob (s : PySem.W.SharedT) : hk.α := obsP T adr (HandSHeadRun.getT s)
theorem ob_eq (s : PySem.W.SharedT) : ob s = hk.obs s.abs := obsP_eq (HandSHeadRun.getT_eq s)
abbrev qv : Program := PySem.W.view R.prog [137]
theorem run1 (w : World) (os : OsState) : (HandSHeadRun.endF (HandSHeadRun.stepQ (HandSHeadRun.denQ HandSHeadRun.tabQ) R.prog w) 40000 R.prog w os).map (fun s => HandSHeadRun.looksF R.prog (PySem.W.boot_heap w.params) s.abs) = some true := by
  kernel_rfl
theorem run2 (w : World) (os : OsState) : (HandSHeadRun.endF (HandSHeadRun.stepQ (HandSHeadRun.denQ HandSHeadRun.tabQ) R.prog w) 40000 R.prog w os).map (fun s => HandSHeadRun.seenQ qv loose (PySem.importedModules R.prog.main.body) (fun s => PySem.W.xlAt qv [] s && PySem.W.recOk R.toRowW.records s) s.abs) = some (PySem.W.openGood qv loose) := by
  kernel_rfl
theorem run3 (w : World) (os : OsState) : (HandSHeadRun.endF (HandSHeadRun.stepQ (HandSHeadRun.denQ HandSHeadRun.tabQ) R.prog w) 40000 R.prog w os).map (fun s => ob s) = some (hk.val w) := by
  kernel_rfl
theorem run (w : World) : HandSHeadRun.RunEq R qv hk ob 40000 loose w := run_join (run1 w) (run2 w) (run3 w)
section
variable {K : PySem.W.Frag} {mg : Str → Option Value} {base : Heap} {P : Program} {w : World}
theorem ps_taut_claim : PsOk "taut_claim" "taut_claim" (topS 110) p_taut_claim := fun _ _ _ _ _ _ us hl => match us, hl with | [_, _], _ => rfl
theorem h_taut_claim (t : Told T K mg base) : Has P w base (GG K mg) 2 "taut_claim" spN := has_none (y := "taut_claim") (N := N_taut_claim) (ps := p_taut_claim) t (by simp) (by simp) ps_taut_claim ck_taut_claim
theorem ps_leveller_claim : PsOk "leveller_claim" "leveller_claim" (topS 111) p_leveller_claim := fun _ _ _ _ _ _ us hl => match us, hl with | [_, _], _ => rfl
theorem h_leveller_claim (t : Told T K mg base) : Has P w base (GG K mg) 2 "leveller_claim" spN := has_none (y := "leveller_claim") (N := N_leveller_claim) (ps := p_leveller_claim) t (by simp) (by simp) ps_leveller_claim ck_leveller_claim
theorem ps_no_leveller_claim : PsOk "no_leveller_claim" "no_leveller_claim" (topS 112) p_no_leveller_claim := fun _ _ _ _ _ _ us hl => match us, hl with | [_, _], _ => rfl
theorem h_no_leveller_claim (t : Told T K mg base) : Has P w base (GG K mg) 2 "no_leveller_claim" spN := has_none (y := "no_leveller_claim") (N := N_no_leveller_claim) (ps := p_no_leveller_claim) t (by simp) (by simp) ps_no_leveller_claim ck_no_leveller_claim
theorem ps_not_taut_claim : PsOk "not_taut_claim" "not_taut_claim" (topS 113) p_not_taut_claim := fun _ _ _ _ _ _ us hl => match us, hl with | [_, _], _ => rfl
theorem h_not_taut_claim (t : Told T K mg base) : Has P w base (GG K mg) 2 "not_taut_claim" spN := has_none (y := "not_taut_claim") (N := N_not_taut_claim) (ps := p_not_taut_claim) t (by simp) (by simp) ps_not_taut_claim ck_not_taut_claim
theorem ps_smooth_claim : PsOk "smooth_claim" "smooth_claim" (topS 114) p_smooth_claim := fun _ _ _ _ _ _ us hl => match us, hl with | [_, _], _ => rfl
theorem h_smooth_claim (t : Told T K mg base) : Has P w base (GG K mg) 2 "smooth_claim" spN := has_none (y := "smooth_claim") (N := N_smooth_claim) (ps := p_smooth_claim) t (by simp) (by simp) ps_smooth_claim ck_smooth_claim
theorem ps_settled_claim : PsOk "settled_claim" "settled_claim" (topS 115) p_settled_claim := fun _ _ _ _ _ _ us hl => match us, hl with | [_, _], _ => rfl
theorem h_settled_claim (t : Told T K mg base) : Has P w base (GG K mg) 2 "settled_claim" spN := has_none (y := "settled_claim") (N := N_settled_claim) (ps := p_settled_claim) t (by simp) (by simp) ps_settled_claim ck_settled_claim
theorem ps_are_done : PsOk "are_done" "are_done" (topS 86) p_are_done := fun _ _ _ _ _ _ us hl => match us, hl with | [_, _, _], _ => rfl
theorem h_are_done (t : Told T K mg base) : Has P w base (GG K mg) 2 "are_done" spN := has_none (y := "are_done") (N := N_are_done) (ps := p_are_done) t (by simp) (by simp) ps_are_done ck_are_done
theorem ps_are_speeds : PsOk "are_speeds" "are_speeds" (topS 82) p_are_speeds := fun _ _ _ _ _ _ us hl => match us, hl with | [_, _], _ => rfl
theorem h_are_speeds (t : Told T K mg base) : Has P w base (GG K mg) 2 "are_speeds" spN := has_none (y := "are_speeds") (N := N_are_speeds) (ps := p_are_speeds) t (by simp) (by simp) ps_are_speeds ck_are_speeds
theorem ps_is_less : PsOk "is_less" "is_less" (topS 20) p_is_less := fun _ _ _ _ _ _ us hl => match us, hl with | [_, _], _ => rfl
theorem h_is_less (t : Told T K mg base) : Has P w base (GG K mg) 2 "is_less" sp_is_less := has_top (y := "is_less") (Γ := {}) (N := N_is_less) (ps := p_is_less) (c := c_is_less) t (by simp) (by simp) ps_is_less ck_is_less (b_is_less _) ⟨fnil, fnil, fnil, fnil, fnil, t.blt (by decide +kernel)⟩
theorem ps_common : PsOk "common" "common" (topS 12) p_common := fun _ _ _ _ _ _ us hl => match us, hl with | [_, _], _ => rfl
theorem h_common (t : Told T K mg base) : Has P w base (GG K mg) 2 "common" sp_common := has_top (y := "common") (Γ := {}) (N := N_common) (ps := p_common) (c := c_common) t (by simp) (by simp) ps_common ck_common (b_common _) ⟨fnil, fnil, fnil, fnil, fnil, t.blt (by decide +kernel)⟩
theorem ps_is_whole : PsOk "is_whole" "is_whole" (topS 11) p_is_whole := fun _ _ _ _ _ _ us hl => match us, hl with | [_], _ => rfl
theorem h_is_whole (t : Told T K mg base) : Has P w base (GG K mg) 2 "is_whole" sp_is_whole := has_top (y := "is_whole") (Γ := {}) (N := N_is_whole) (ps := p_is_whole) (c := c_is_whole) t (by simp) (by simp) ps_is_whole ck_is_whole (b_is_whole _) ⟨fnil, fnil, fnil, fnil, fnil, t.blt (by decide +kernel)⟩
theorem ps_is_number : PsOk "is_number" "is_number" (topS 13) p_is_number := fun _ _ _ _ _ _ us hl => match us, hl with | [_], _ => rfl
theorem h_is_number (t : Told T K mg base) : Has P w base (GG K mg) 4 "is_number" sp_is_number := has_top (y := "is_number") (Γ := G_is_number) (N := N_is_number) (ps := p_is_number) (c := c_is_number) t (by simp) (by simp) ps_is_number ck_is_number (b_is_number) ⟨(fcons ((h_common t).mono (by decide)) (fcons ((h_is_whole t).mono (by decide)) fnil)), fnil, fnil, fnil, fnil, t.blt (by decide +kernel)⟩
theorem ps_is_pair : PsOk "is_pair" "is_pair" (topS 24) p_is_pair := fun _ _ _ _ _ _ us hl => match us, hl with | [_], _ => rfl
theorem h_is_pair (t : Told T K mg base) : Has P w base (GG K mg) 6 "is_pair" sp_is_pair := has_top (y := "is_pair") (Γ := G_is_pair) (N := N_is_pair) (ps := p_is_pair) (c := c_is_pair) t (by simp) (by simp) ps_is_pair ck_is_pair (b_is_pair) ⟨(fcons ((h_is_less t).mono (by decide)) (fcons ((h_is_number t).mono (by decide)) fnil)), fnil, fnil, fnil, fnil, t.blt (by decide +kernel)⟩
theorem ps_is_tube : PsOk "is_tube" "is_tube" (topS 25) p_is_tube := fun _ _ _ _ _ _ us hl => match us, hl with | [_], _ => rfl
theorem h_is_tube (t : Told T K mg base) : Has P w base (GG K mg) 8 "is_tube" sp_is_tube := has_top (y := "is_tube") (Γ := G_is_tube) (N := N_is_tube) (ps := p_is_tube) (c := c_is_tube) t (by simp) (by simp) ps_is_tube ck_is_tube (b_is_tube) ⟨(fcons ((h_is_pair t).mono (by decide)) fnil), (fcons (t.cst (p := ("MOST_PLACES", (.int 25))) (by simp)) fnil), fnil, fnil, fnil, t.blt (by decide +kernel)⟩
theorem ps_is_tied : PsOk "is_tied" "is_tied" (topS 26) p_is_tied := fun _ _ _ _ _ _ us hl => match us, hl with | [_], _ => rfl
theorem h_is_tied (t : Told T K mg base) : Has P w base (GG K mg) 10 "is_tied" sp_is_tied := has_top (y := "is_tied") (Γ := G_is_tied) (N := N_is_tied) (ps := p_is_tied) (c := c_is_tied) t (by simp) (by simp) ps_is_tied ck_is_tied (b_is_tied) ⟨(fcons ((h_is_tube t).mono (by decide)) fnil), fnil, fnil, fnil, fnil, t.blt (by decide +kernel)⟩
theorem ps_is_within : PsOk "is_within" "is_within" (topS 31) p_is_within := fun _ _ _ _ _ _ us hl => match us, hl with | [_, _], _ => rfl
theorem h_is_within (t : Told T K mg base) : Has P w base (GG K mg) 4 "is_within" sp_is_within := has_top (y := "is_within") (Γ := G_is_within) (N := N_is_within) (ps := p_is_within) (c := c_is_within) t (by simp) (by simp) ps_is_within ck_is_within (b_is_within) ⟨(fcons ((h_is_less t).mono (by decide)) fnil), fnil, fnil, fnil, fnil, t.blt (by decide +kernel)⟩
theorem ps_are_numbers_tubes : PsOk "are_numbers" "are_numbers" (topS 29) p_are_numbers := fun _ _ _ _ _ _ us hl => match us, hl with | [_, _, _], _ => rfl
theorem h_are_numbers_tubes (t : Told T K mg base) : Has P w base (GG K mg) 6 "are_numbers_tubes" sp_are_numbers := has_top (y := "are_numbers") (Γ := G_are_numbers) (N := N_are_numbers) (ps := p_are_numbers) (c := c_are_numbers) t (by simp) (by simp) ps_are_numbers_tubes ck_are_numbers (b_are_numbers) ⟨(fcons ((h_is_number t).mono (by decide)) fnil), fnil, fnil, fnil, fnil, t.blt (by decide +kernel)⟩
theorem ps_check_tube : PsOk "check_tube" "check_tube" (topS 27) p_check_tube := fun _ _ _ _ _ _ us hl => match us, hl with | [_], _ => rfl
theorem h_check_tube (t : Told T K mg base) : Has P w base (GG K mg) 10 "check_tube" sp_check_tube := has_top (y := "check_tube") (Γ := G_check_tube) (N := N_check_tube) (ps := p_check_tube) (c := c_check_tube) t (by simp) (by simp) ps_check_tube ck_check_tube (b_check_tube) ⟨(fcons ((h_is_tube t).mono (by decide)) fnil), fnil, fnil, fnil, fnil, t.blt (by decide +kernel)⟩
theorem ps_is_row : PsOk "is_row" "is_row" (topS 32) p_is_row := fun _ _ _ _ _ _ us hl => match us, hl with | [_, _], _ => rfl
theorem h_is_row (t : Told T K mg base) : Has P w base (GG K mg) 12 "is_row" sp_is_row := has_top (y := "is_row") (Γ := G_is_row) (N := N_is_row) (ps := p_is_row) (c := c_is_row) t (by simp) (by simp) ps_is_row ck_is_row (b_is_row) ⟨(fcons ((h_is_within t).mono (by decide)) (fcons ((h_are_numbers_tubes t).mono (by decide)) (fcons ((h_check_tube t).mono (by decide)) fnil))), fnil, fnil, fnil, fnil, t.blt (by decide +kernel)⟩
theorem ps_bend_right : PsOk "bend_right" "bend_right" (topS 55) p_bend_right := fun _ _ _ _ _ _ us hl => match us, hl with | [_, _, _, _], _ => rfl
theorem h_bend_right (t : Told T K mg base) : Has P w base (GG K mg) 4 "bend_right" sp_bend_right := has_top (y := "bend_right") (Γ := G_bend_right) (N := N_bend_right) (ps := p_bend_right) (c := c_bend_right) t (by simp) (by simp) ps_bend_right ck_bend_right (b_bend_right) ⟨(fcons ((h_is_less t).mono (by decide)) fnil), fnil, fnil, fnil, fnil, t.blt (by decide +kernel)⟩
theorem ps_number : PsOk "number" "number" (topS 14) p_number := fun _ _ _ _ _ _ us hl => match us, hl with | [_, _], _ => rfl
theorem h_number (t : Told T K mg base) : Has P w base (GG K mg) 4 "number" sp_number := has_top (y := "number") (Γ := G_number) (N := N_number) (ps := p_number) (c := c_number) t (by simp) (by simp) ps_number ck_number (b_number) ⟨(fcons ((h_common t).mono (by decide)) fnil), fnil, fnil, fnil, fnil, t.blt (by decide +kernel)⟩
theorem ps_taken : PsOk "taken" "taken" (topS 17) p_taken := fun _ _ _ _ _ _ us hl => match us, hl with | [_, _], _ => rfl
theorem h_taken (t : Told T K mg base) : Has P w base (GG K mg) 6 "taken" sp_taken := has_top (y := "taken") (Γ := G_num) (N := N_taken) (ps := p_taken) (c := c_taken) t (by simp) (by simp) ps_taken ck_taken (b_taken) ⟨(fcons ((h_number t).mono (by decide)) fnil), fnil, fnil, fnil, fnil, t.blt (by decide +kernel)⟩
theorem ps_steps_of : PsOk "steps_of" "steps_of" (topS 56) p_steps_of := fun _ _ _ _ _ _ us hl => match us, hl with | [_], _ => rfl
theorem h_steps_of (t : Told T K mg base) : Has P w base (GG K mg) 8 "steps_of" sp_steps_of := has_top (y := "steps_of") (Γ := G_steps_of) (N := N_steps_of) (ps := p_steps_of) (c := c_steps_of) t (by simp) (by simp) ps_steps_of ck_steps_of (b_steps_of) ⟨(fcons ((h_taken t).mono (by decide)) fnil), fnil, fnil, fnil, fnil, t.blt (by decide +kernel)⟩
theorem ps_bends_right : PsOk "bends_right" "bends_right" (topS 57) p_bends_right := fun _ _ _ _ _ _ us hl => match us, hl with | [_, _], _ => rfl
theorem h_bends_right (t : Told T K mg base) : Has P w base (GG K mg) 10 "bends_right" sp_bends_right := has_top (y := "bends_right") (Γ := G_bends_right) (N := N_bends_right) (ps := p_bends_right) (c := c_bends_right) t (by simp) (by simp) ps_bends_right ck_bends_right (b_bends_right) ⟨(fcons ((h_bend_right t).mono (by decide)) (fcons ((h_steps_of t).mono (by decide)) fnil)), fnil, fnil, fnil, fnil, t.blt (by decide +kernel)⟩
theorem ps_is_cord : PsOk "is_cord" "is_cord" (topS 58) p_is_cord := fun _ _ _ _ _ _ us hl => match us, hl with | [_, _], _ => rfl
theorem h_is_cord (t : Told T K mg base) : Has P w base (GG K mg) 14 "is_cord" sp_is_cord := has_top (y := "is_cord") (Γ := G_is_cord) (N := N_is_cord) (ps := p_is_cord) (c := c_is_cord) t (by simp) (by simp) ps_is_cord ck_is_cord (b_is_cord) ⟨(fcons ((h_is_tied t).mono (by decide)) (fcons ((h_is_row t).mono (by decide)) (fcons ((h_bends_right t).mono (by decide)) fnil))), fnil, fnil, fnil, fnil, t.blt (by decide +kernel)⟩
theorem ps_added : PsOk "added" "added" (topS 16) p_added := fun _ _ _ _ _ _ us hl => match us, hl with | [_, _], _ => rfl
theorem h_added (t : Told T K mg base) : Has P w base (GG K mg) 6 "added" sp_added := has_top (y := "added") (Γ := G_num) (N := N_added) (ps := p_added) (c := c_added) t (by simp) (by simp) ps_added ck_added (b_added) ⟨(fcons ((h_number t).mono (by decide)) fnil), fnil, fnil, fnil, fnil, t.blt (by decide +kernel)⟩
theorem ps_sums_of : PsOk "sums_of" "sums_of" (topS 69) p_sums_of := fun _ _ _ _ _ _ us hl => match us, hl with | [_], _ => rfl
theorem h_sums_of (t : Told T K mg base) : Has P w base (GG K mg) 8 "sums_of" sp_sums_of := has_top (y := "sums_of") (Γ := G_sums_of) (N := N_sums_of) (ps := p_sums_of) (c := c_sums_of) t (by simp) (by simp) ps_sums_of ck_sums_of (b_sums_of) ⟨(fcons ((h_added t).mono (by decide)) fnil), (fcons (t.cst (p := ("NOUGHT", nD 0)) (by simp)) fnil), fnil, fnil, fnil, t.blt (by decide +kernel)⟩
theorem ps_store_bounds : PsOk "store_bounds" "store_bounds" (topS 77) p_store_bounds := fun _ _ _ _ _ _ us hl => match us, hl with | [_, _], _ => rfl
theorem h_store_bounds (t : Told T K mg base) : Has P w base (GG K mg) 10 "store_bounds" sp_store_bounds := has_top (y := "store_bounds") (Γ := G_store_bounds) (N := N_store_bounds) (ps := p_store_bounds) (c := c_store_bounds) t (by simp) (by simp) ps_store_bounds ck_store_bounds (b_store_bounds) ⟨(fcons ((h_added t).mono (by decide)) (fcons ((h_sums_of t).mono (by decide)) fnil)), (fcons (t.cst (p := ("NOUGHT", nD 0)) (by simp)) fnil), fnil, fnil, fnil, t.blt (by decide +kernel)⟩
theorem ps_are_numbers_bendchecks : PsOk "are_numbers" "are_numbers" (topS 52) p_are_numbers_2 := fun _ _ _ _ _ _ us hl => match us, hl with | [_, _], _ => rfl
theorem h_are_numbers_bendchecks (t : Told T K mg base) : Has P w base (GG K mg) 6 "are_numbers_bendchecks" sp_are_numbers_2 := has_top (y := "are_numbers") (Γ := G_are_numbers_2) (N := N_are_numbers_2) (ps := p_are_numbers_2) (c := c_are_numbers_2) t (by simp) (by simp) ps_are_numbers_bendchecks ck_are_numbers_2 (b_are_numbers_2) ⟨(fcons ((h_is_number t).mono (by decide)) fnil), fnil, fnil, fnil, fnil, t.blt (by decide +kernel)⟩
theorem ps_are_steps : PsOk "are_steps" "are_steps" (topS 54) p_are_steps := fun _ _ _ _ _ _ us hl => match us, hl with | [_], _ => rfl
theorem h_are_steps (t : Told T K mg base) : Has P w base (GG K mg) 8 "are_steps" sp_are_steps := has_top (y := "are_steps") (Γ := G_are_steps) (N := N_are_steps) (ps := p_are_steps) (c := c_are_steps) t (by simp) (by simp) ps_are_steps ck_are_steps (b_are_steps) ⟨(fcons ((h_are_numbers_bendchecks t).mono (by decide)) fnil), (fcons (t.cst (p := ("MOST_STEPS_bendchecks", (.int 24))) (by simp)) fnil), fnil, fnil, fnil, t.blt (by decide +kernel)⟩
theorem ps_is_price : PsOk "is_price" "is_price" (topS 67) p_is_price_2 := fun _ _ _ _ _ _ us hl => match us, hl with | [_], _ => rfl
theorem h_is_price (t : Told T K mg base) : Has P w base (GG K mg) 6 "is_price" sp_is_price_2 := has_top (y := "is_price") (Γ := G_is_price_2) (N := N_is_price_2) (ps := p_is_price_2) (c := c_is_price_2) t (by simp) (by simp) ps_is_price ck_is_price_2 (b_is_price_2) ⟨(fcons ((h_is_number t).mono (by decide)) fnil), fnil, fnil, fnil, fnil, t.blt (by decide +kernel)⟩
theorem ps_is_bought : PsOk "is_bought" "is_bought" (topS 78) p_is_bought := fun _ _ _ _ _ _ us hl => match us, hl with | [_, _, _], _ => rfl
theorem h_is_bought (t : Told T K mg base) : Has P w base (GG K mg) 16 "is_bought" sp_is_bought := has_top (y := "is_bought") (Γ := G_is_bought) (N := N_is_bought) (ps := p_is_bought) (c := c_is_bought) t (by simp) (by simp) ps_is_bought ck_is_bought (b_is_bought) ⟨(fcons ((h_is_cord t).mono (by decide)) (fcons ((h_sums_of t).mono (by decide)) (fcons ((h_store_bounds t).mono (by decide)) (fcons ((h_are_steps t).mono (by decide)) (fcons ((h_is_price t).mono (by decide)) (fcons ((h_are_numbers_bendchecks t).mono (by decide)) fnil)))))), fnil, fnil, fnil, fnil, t.blt (by decide +kernel)⟩
theorem ps_use_claim : PsOk "use_claim" "use_claim" (topS 116) p_use_claim := fun _ _ _ _ _ _ us hl => match us, hl with | [_, _], _ => rfl
theorem h_use_claim (t : Told T K mg base) : Has P w base (GG K mg) 18 "use_claim" (sp_use sp_is_bought spN spN) := has_top (y := "use_claim") (Γ := (G_use sp_is_bought spN spN)) (N := N_use_claim) (ps := p_use_claim) (c := c_use_claim) t (by simp) (by simp) ps_use_claim ck_use_claim (b_use_k96) ⟨(fcons ((h_are_done t).mono (by decide)) (fcons ((h_are_speeds t).mono (by decide)) (fcons ((h_is_bought t).mono (by decide)) fnil))), fnil, fnil, fnil, fnil, t.blt (by decide +kernel)⟩
theorem ps_holds : PsOk "holds" "holds" (topS 118) p_holds := fun _ _ _ _ _ _ us hl => match us, hl with | [_, _], _ => rfl
theorem h_holds (t : Told T K mg base) : Has P w base (GG K mg) 20 "holds" sp_holds_k96 := has_top (y := "holds") (Γ := (G_holds spN spN spN spN spN spN (sp_use sp_is_bought spN spN))) (N := N_holds) (ps := p_holds) (c := c_holds) t (by simp) (by simp) ps_holds ck_holds (b_holds_k96) ⟨(fcons ((h_taut_claim t).mono (by decide)) (fcons ((h_leveller_claim t).mono (by decide)) (fcons ((h_no_leveller_claim t).mono (by decide)) (fcons ((h_not_taut_claim t).mono (by decide)) (fcons ((h_smooth_claim t).mono (by decide)) (fcons ((h_settled_claim t).mono (by decide)) (fcons ((h_use_claim t).mono (by decide)) fnil))))))), (fcons (t.cst (p := ("CLAIMS", (.tup [(.tup [(.str "taut"), (.int 3), (.fn "taut_claim")]), (.tup [(.str "loose"), (.int 3), (.fn "taut_claim")]), (.tup [(.str "ring"), (.int 3), (.fn "taut_claim")]), (.tup [(.str "leveller"), (.int 3), (.fn "leveller_claim")]), (.tup [(.str "no leveller"), (.int 3), (.fn "no_leveller_claim")]), (.tup [(.str "not taut"), (.int 3), (.fn "not_taut_claim")]), (.tup [(.str "smooth"), (.int 4), (.fn "smooth_claim")]), (.tup [(.str "stair"), (.int 3), (.fn "smooth_claim")]), (.tup [(.str "settled"), (.int 3), (.fn "settled_claim")]), (.tup [(.str "store"), (.int 4), (.fn "use_claim")]), (.tup [(.str "speeds"), (.int 3), (.fn "use_claim")]), (.tup [(.str "done"), (.int 4), (.fn "use_claim")])]))) (by simp)) fnil), fnil, fnil, fnil, t.blt (by decide +kernel)⟩
theorem ps_check_plain_row : PsOk "check_plain_row" "check_plain_row" (topS 33) p_check_plain_row := fun _ _ _ _ _ _ us hl => match us, hl with | [_], _ => rfl
theorem h_check_plain_row (t : Told T K mg base) : Has P w base (GG K mg) 8 "check_plain_row" sp_check_plain_row := has_top (y := "check_plain_row") (Γ := (G_check_plain_row' "are_numbers_tubes")) (N := N_check_plain_row) (ps := p_check_plain_row) (c := c_check_plain_row) t (by simp) (by simp) ps_check_plain_row ck_check_plain_row (b_check_plain_row' "are_numbers_tubes") ⟨(fcons ((h_are_numbers_tubes t).mono (by decide)) fnil), (fcons (t.cst (p := ("MOST_PLACES", (.int 25))) (by simp)) fnil), fnil, fnil, fnil, t.blt (by decide +kernel)⟩
theorem ps_steps : PsOk "steps" "steps" (topS 34) p_steps := fun _ _ _ _ _ _ us hl => match us, hl with | [_], _ => rfl
theorem h_steps (t : Told T K mg base) : Has P w base (GG K mg) 10 "steps" sp_steps := has_top (y := "steps") (Γ := G_steps) (N := N_steps) (ps := p_steps) (c := c_steps) t (by simp) (by simp) ps_steps ck_steps (b_steps) ⟨(fcons ((h_taken t).mono (by decide)) (fcons ((h_check_plain_row t).mono (by decide)) fnil)), fnil, fnil, fnil, fnil, t.blt (by decide +kernel)⟩
theorem ps_drawn_to : PsOk "drawn_to" "drawn_to" (topS 40) p_drawn_to := fun _ _ _ _ _ _ us hl => match us, hl with | [_, _, _], _ => rfl
theorem h_drawn_to (t : Told T K mg base) : Has P w base (GG K mg) 8 "drawn_to" sp_drawn_to := has_top (y := "drawn_to") (Γ := G_drawn_to) (N := N_drawn_to) (ps := p_drawn_to) (c := c_drawn_to) t (by simp) (by simp) ps_drawn_to ck_drawn_to (b_drawn_to) ⟨(fcons ((h_added t).mono (by decide)) fnil), fnil, fnil, fnil, fnil, t.blt (by decide +kernel)⟩
theorem ps_Reach___init__ : PsOk "__init__" "Reach.__init__" (inClass (topS 38) 0) p_Reach___init__ := fun _ _ _ _ _ _ us hl => match us, hl with | [_, _, _], _ => rfl
theorem h_Reach___init__ (t : Told T K mg base) : HasI P w base (GG K mg) 2 .Reach "Reach" spI_Reach := has_ini (Γ := G_Reach0) (C := .Reach) (N := N_Reach___init__) (ps := p_Reach___init__) (c := c_Reach___init__) t (by simp [Cn.str]) (by simp [Cn.str]) (by simp [Cn.str]) ps_Reach___init__ ck_Reach___init__ (b_Reach_init) ⟨fnil, fnil, fnil, fnil, (fcons (t.cls (C := .Reach) (by decide) (by simp [Cn.str])) fnil), t.blt (by decide +kernel)⟩
theorem ps_parted : PsOk "parted" "parted" (topS 19) p_parted := fun _ _ _ _ _ _ us hl => match us, hl with | [_, _], _ => rfl
theorem h_parted (t : Told T K mg base) : Has P w base (GG K mg) 6 "parted" sp_parted := has_top (y := "parted") (Γ := G_num) (N := N_parted) (ps := p_parted) (c := c_parted) t (by simp) (by simp) ps_parted ck_parted (b_parted) ⟨(fcons ((h_number t).mono (by decide)) fnil), fnil, fnil, fnil, fnil, t.blt (by decide +kernel)⟩
theorem ps_whole : PsOk "whole" "whole" (topS 15) p_whole := fun _ _ _ _ _ _ us hl => match us, hl with | [_], _ => rfl
theorem h_whole (t : Told T K mg base) : Has P w base (GG K mg) 2 "whole" sp_whole := has_top (y := "whole") (Γ := {}) (N := N_whole) (ps := p_whole) (c := c_whole) t (by simp) (by simp) ps_whole ck_whole (b_whole _) ⟨fnil, fnil, fnil, fnil, fnil, t.blt (by decide +kernel)⟩
theorem ps_slope_to : PsOk "slope_to" "slope_to" (topS 37) p_slope_to := fun _ _ _ _ _ _ us hl => match us, hl with | [_, _], _ => rfl
theorem h_slope_to (t : Told T K mg base) : Has P w base (GG K mg) 8 "slope_to" sp_slope_to := has_top (y := "slope_to") (Γ := G_slope_to) (N := N_slope_to) (ps := p_slope_to) (c := c_slope_to) t (by simp) (by simp) ps_slope_to ck_slope_to (b_slope_to) ⟨(fcons ((h_parted t).mono (by decide)) (fcons ((h_whole t).mono (by decide)) (fcons ((h_taken t).mono (by decide)) fnil))), fnil, fnil, fnil, fnil, t.blt (by decide +kernel)⟩
theorem ps_Reach_crossed : PsOk "crossed" "Reach.crossed" (inClass (topS 38) 1) p_Reach_crossed := fun _ _ _ _ _ _ us hl => match us, hl with | [_, _, _], _ => rfl
theorem h_Reach_crossed (t : Told T K mg base) : HasM P w base (GG K mg) 4 .Reach "crossed" sp_crossed := has_met (Γ := G_crossed) (C := .Reach) (N := N_Reach_crossed) (ps := p_Reach_crossed) (c := c_Reach_crossed) t (by simp [Cn.str]) (by simp [Cn.str]) (by simp [Cn.str]) ps_Reach_crossed (by decide) ck_Reach_crossed (b_crossed) ⟨(fcons ((h_is_less t).mono (by decide)) fnil), fnil, fnil, fnil, (fcons (t.cls (C := .Reach) (by decide) (by simp [Cn.str])) fnil), t.blt (by decide +kernel)⟩
theorem ps_Reach_take : PsOk "take" "Reach.take" (inClass (topS 38) 2) p_Reach_take := fun _ _ _ _ _ _ us hl => match us, hl with | [_, _, _], _ => rfl
theorem h_Reach_take (t : Told T K mg base) : HasM P w base (GG K mg) 10 .Reach "take" sp_take := has_met (Γ := G_take) (C := .Reach) (N := N_Reach_take) (ps := p_Reach_take) (c := c_Reach_take) t (by simp [Cn.str]) (by simp [Cn.str]) (by simp [Cn.str]) ps_Reach_take (by decide) ck_Reach_take (b_take) ⟨(fcons ((h_is_less t).mono (by decide)) (fcons ((h_slope_to t).mono (by decide)) fnil)), fnil, fnil, (fcons ((h_Reach_crossed t).mono (by decide)) fnil), (fcons (t.cls (C := .Reach) (by decide) (by simp [Cn.str])) fnil), t.blt (by decide +kernel)⟩
theorem ps_touch_behind : PsOk "touch_behind" "touch_behind" (topS 39) p_touch_behind := fun _ _ _ _ _ _ us hl => match us, hl with | [_, _, _], _ => rfl
theorem h_touch_behind (t : Told T K mg base) : Has P w base (GG K mg) 12 "touch_behind" sp_touch := has_top (y := "touch_behind") (Γ := G_touch) (N := N_touch_behind) (ps := p_touch_behind) (c := c_touch_behind) t (by simp) (by simp) ps_touch_behind ck_touch_behind (b_touch) ⟨fnil, fnil, (fcons ((h_Reach___init__ t).mono (by decide)) fnil), (fcons ((h_Reach_take t).mono (by decide)) fnil), (fcons (t.cls (C := .Reach) (by decide) (by simp [Cn.str])) fnil), t.blt (by decide +kernel)⟩
theorem ps_drawn : PsOk "drawn" "drawn" (topS 41) p_drawn := fun _ _ _ _ _ _ us hl => match us, hl with | [_], _ => rfl
theorem h_drawn (t : Told T K mg base) : Has P w base (GG K mg) 14 "drawn" sp_drawn := has_top (y := "drawn") (Γ := G_drawn) (N := N_drawn) (ps := p_drawn) (c := c_drawn) t (by simp) (by simp) ps_drawn ck_drawn (b_drawn) ⟨(fcons ((h_drawn_to t).mono (by decide)) (fcons ((h_touch_behind t).mono (by decide)) fnil)), fnil, fnil, fnil, fnil, t.blt (by decide +kernel)⟩
theorem ps_check_tied : PsOk "check_tied" "check_tied" (topS 28) p_check_tied := fun _ _ _ _ _ _ us hl => match us, hl with | [_], _ => rfl
theorem h_check_tied (t : Told T K mg base) : Has P w base (GG K mg) 12 "check_tied" sp_check_tied := has_top (y := "check_tied") (Γ := G_check_tied) (N := N_check_tied) (ps := p_check_tied) (c := c_check_tied) t (by simp) (by simp) ps_check_tied ck_check_tied (b_check_tied) ⟨(fcons ((h_is_tied t).mono (by decide)) fnil), fnil, fnil, fnil, fnil, t.blt (by decide +kernel)⟩
theorem ps_cord : PsOk "cord" "cord" (topS 42) p_cord := fun _ _ _ _ _ _ us hl => match us, hl with | [_], _ => rfl
theorem h_cord (t : Told T K mg base) : Has P w base (GG K mg) 16 "cord" sp_cord := has_top (y := "cord") (Γ := G_cord) (N := N_cord) (ps := p_cord) (c := c_cord) t (by simp) (by simp) ps_cord ck_cord (b_cord) ⟨(fcons ((h_drawn t).mono (by decide)) (fcons ((h_check_tied t).mono (by decide)) fnil)), fnil, fnil, fnil, fnil, t.blt (by decide +kernel)⟩
theorem ps_is_amount : PsOk "is_amount" "is_amount" (topS 45) p_is_amount := fun _ _ _ _ _ _ us hl => match us, hl with | [_], _ => rfl
theorem h_is_amount (t : Told T K mg base) : Has P w base (GG K mg) 6 "is_amount" sp_is_amount := has_top (y := "is_amount") (Γ := G_is_amount) (N := N_is_amount) (ps := p_is_amount) (c := c_is_amount) t (by simp) (by simp) ps_is_amount ck_is_amount (b_is_amount) ⟨(fcons ((h_is_number t).mono (by decide)) fnil), fnil, fnil, fnil, fnil, t.blt (by decide +kernel)⟩
theorem ps_check_store : PsOk "check_store" "check_store" (topS 46) p_check_store := fun _ _ _ _ _ _ us hl => match us, hl with | [_, _], _ => rfl
theorem h_check_store (t : Told T K mg base) : Has P w base (GG K mg) 8 "check_store" sp_check_store := has_top (y := "check_store") (Γ := G_check_store) (N := N_check_store) (ps := p_check_store) (c := c_check_store) t (by simp) (by simp) ps_check_store ck_check_store (b_check_store) ⟨(fcons ((h_is_amount t).mono (by decide)) fnil), (fcons (t.cst (p := ("MOST_NEEDS", (.int 24))) (by simp)) fnil), fnil, fnil, fnil, t.blt (by decide +kernel)⟩
theorem ps_store_tube : PsOk "store_tube" "store_tube" (topS 47) p_store_tube := fun _ _ _ _ _ _ us hl => match us, hl with | [_, _], _ => rfl
theorem h_store_tube (t : Told T K mg base) : Has P w base (GG K mg) 10 "store_tube" sp_store_tube := has_top (y := "store_tube") (Γ := G_store_tube) (N := N_store_tube) (ps := p_store_tube) (c := c_store_tube) t (by simp) (by simp) ps_store_tube ck_store_tube (b_store_tube) ⟨(fcons ((h_added t).mono (by decide)) (fcons ((h_check_store t).mono (by decide)) fnil)), (fcons (t.cst (p := ("NOUGHT", nD 0)) (by simp)) fnil), fnil, fnil, fnil, t.blt (by decide +kernel)⟩
theorem ps_bought : PsOk "bought" "bought" (topS 48) p_bought := fun _ _ _ _ _ _ us hl => match us, hl with | [_, _], _ => rfl
theorem h_bought (t : Told T K mg base) : Has P w base (GG K mg) 18 "bought" sp_bought := has_top (y := "bought") (Γ := G_bought) (N := N_bought) (ps := p_bought) (c := c_bought) t (by simp) (by simp) ps_bought ck_bought (b_bought) ⟨(fcons ((h_steps t).mono (by decide)) (fcons ((h_cord t).mono (by decide)) (fcons ((h_store_tube t).mono (by decide)) fnil))), fnil, fnil, fnil, fnil, t.blt (by decide +kernel)⟩
theorem ps_paper_store : PsOk "paper_store" "paper_store" (topS 120) p_paper_store := fun _ _ _ _ _ _ us hl => match us, hl with | [_, _], _ => rfl
theorem h_paper_store (t : Told T K mg base) : Has P w base (GG K mg) 20 "paper_store" sp_paper_store := has_top (y := "paper_store") (Γ := G_paper_store) (N := N_paper_store) (ps := p_paper_store) (c := c_paper_store) t (by simp) (by simp) ps_paper_store ck_paper_store (b_paper_store) ⟨(fcons ((h_bought t).mono (by decide)) fnil), fnil, fnil, fnil, fnil, t.blt (by decide +kernel)⟩
theorem ps_w_under : PsOk "_law_under" "_law_under" (topS 129) p_w_under := fun _ _ _ _ _ _ us hl => match us, hl with | [_, _], _ => rfl
theorem h_w_under (t : Told T K mg base) : Has P w base (GG K mg) 2 "_law_under" sp_is_less := has_top (y := "_law_under") (Γ := {}) (N := N_w_under) (ps := p_w_under) (c := c_w_under) t (by simp) (by simp) ps_w_under ck_w_under (b_w_under _) ⟨fnil, fnil, fnil, fnil, fnil, t.blt (by decide +kernel)⟩
theorem ps_total : PsOk "total" "total" (topS 21) p_total := fun _ _ _ _ _ _ us hl => match us, hl with | [_], _ => rfl
theorem h_total (t : Told T K mg base) : Has P w base (GG K mg) 8 "total" sp_total := has_top (y := "total") (Γ := G_total) (N := N_total) (ps := p_total) (c := c_total) t (by simp) (by simp) ps_total ck_total (b_total) ⟨(fcons ((h_added t).mono (by decide)) fnil), (fcons (t.cst (p := ("NOUGHT", nD 0)) (by simp)) fnil), fnil, fnil, fnil, t.blt (by decide +kernel)⟩
theorem ps_multiplied : PsOk "multiplied" "multiplied" (topS 18) p_multiplied := fun _ _ _ _ _ _ us hl => match us, hl with | [_, _], _ => rfl
theorem h_multiplied (t : Told T K mg base) : Has P w base (GG K mg) 6 "multiplied" sp_multiplied := has_top (y := "multiplied") (Γ := G_num) (N := N_multiplied) (ps := p_multiplied) (c := c_multiplied) t (by simp) (by simp) ps_multiplied ck_multiplied (b_multiplied) ⟨(fcons ((h_number t).mono (by decide)) fnil), fnil, fnil, fnil, fnil, t.blt (by decide +kernel)⟩
theorem ps_part_worth : PsOk "part_worth" "part_worth" (topS 103) p_part_worth := fun _ _ _ _ _ _ us hl => match us, hl with | [_, _], _ => rfl
theorem h_part_worth (t : Told T K mg base) : Has P w base (GG K mg) 8 "part_worth" sp_part_worth := has_top (y := "part_worth") (Γ := G_part_worth) (N := N_part_worth) (ps := p_part_worth) (c := c_part_worth) t (by simp) (by simp) ps_part_worth ck_part_worth (b_part_worth) ⟨(fcons ((h_multiplied t).mono (by decide)) (fcons ((h_is_less t).mono (by decide)) (fcons ((h_taken t).mono (by decide)) fnil))), (fcons (t.cst (p := ("NOUGHT", nD 0)) (by simp)) fnil), fnil, fnil, fnil, t.blt (by decide +kernel)⟩
theorem ps_steps_worth : PsOk "steps_worth" "steps_worth" (topS 104) p_steps_worth := fun _ _ _ _ _ _ us hl => match us, hl with | [_, _], _ => rfl
theorem h_steps_worth (t : Told T K mg base) : Has P w base (GG K mg) 10 "steps_worth" sp_steps_worth := has_top (y := "steps_worth") (Γ := G_steps_worth) (N := N_steps_worth) (ps := p_steps_worth) (c := c_steps_worth) t (by simp) (by simp) ps_steps_worth ck_steps_worth (b_steps_worth) ⟨(fcons ((h_added t).mono (by decide)) (fcons ((h_total t).mono (by decide)) (fcons ((h_part_worth t).mono (by decide)) fnil))), (fcons (t.cst (p := ("NOUGHT", nD 0)) (by simp)) fnil), fnil, fnil, fnil, t.blt (by decide +kernel)⟩
theorem ps_is_part_measures : PsOk "is_part" "is_part" (topS 99) p_is_part := fun _ _ _ _ _ _ us hl => match us, hl with | [_], _ => rfl
theorem h_is_part_measures (t : Told T K mg base) : Has P w base (GG K mg) 6 "is_part_measures" sp_is_part := has_top (y := "is_part") (Γ := G_is_part) (N := N_is_part) (ps := p_is_part) (c := c_is_part) t (by simp) (by simp) ps_is_part_measures ck_is_part (b_is_part) ⟨(fcons ((h_is_number t).mono (by decide)) (fcons ((h_is_less t).mono (by decide)) fnil)), (fcons (t.cst (p := ("NOUGHT", nD 0)) (by simp)) (fcons (t.cst (p := ("SIDES", (.tup [(.str "above"), (.str "below")]))) (by simp)) fnil)), fnil, fnil, fnil, t.blt (by decide +kernel)⟩
theorem ps_is_measure : PsOk "is_measure" "is_measure" (topS 101) p_is_measure := fun _ _ _ _ _ _ us hl => match us, hl with | [_], _ => rfl
theorem h_is_measure (t : Told T K mg base) : Has P w base (GG K mg) 8 "is_measure" sp_is_measure := has_top (y := "is_measure") (Γ := G_is_measure) (N := N_is_measure) (ps := p_is_measure) (c := c_is_measure) t (by simp) (by simp) ps_is_measure ck_is_measure (b_is_measure) ⟨(fcons ((h_is_part_measures t).mono (by decide)) fnil), (fcons (t.cst (p := ("MOST_PARTS", (.int 6))) (by simp)) fnil), fnil, fnil, fnil, t.blt (by decide +kernel)⟩
theorem ps_check_measure : PsOk "check_measure" "check_measure" (topS 102) p_check_measure := fun _ _ _ _ _ _ us hl => match us, hl with | [_], _ => rfl
theorem h_check_measure (t : Told T K mg base) : Has P w base (GG K mg) 10 "check_measure" sp_check_measure := has_top (y := "check_measure") (Γ := G_check_measure) (N := N_check_measure) (ps := p_check_measure) (c := c_check_measure) t (by simp) (by simp) ps_check_measure ck_check_measure (b_check_measure) ⟨(fcons ((h_is_measure t).mono (by decide)) fnil), fnil, fnil, fnil, fnil, t.blt (by decide +kernel)⟩
theorem ps_worth : PsOk "worth" "worth" (topS 105) p_worth := fun _ _ _ _ _ _ us hl => match us, hl with | [_, _], _ => rfl
theorem h_worth (t : Told T K mg base) : Has P w base (GG K mg) 12 "worth" sp_worth := has_top (y := "worth") (Γ := G_worth) (N := N_worth) (ps := p_worth) (c := c_worth) t (by simp) (by simp) ps_worth ck_worth (b_worth) ⟨(fcons ((h_steps_worth t).mono (by decide)) (fcons ((h_steps t).mono (by decide)) (fcons ((h_check_plain_row t).mono (by decide)) (fcons ((h_check_measure t).mono (by decide)) fnil)))), fnil, fnil, fnil, fnil, t.blt (by decide +kernel)⟩
theorem ps_row_of : PsOk "row_of" "row_of" (topS 35) p_row_of := fun _ _ _ _ _ _ us hl => match us, hl with | [_, _], _ => rfl
theorem h_row_of (t : Told T K mg base) : Has P w base (GG K mg) 8 "row_of" sp_row_of := has_top (y := "row_of") (Γ := G_row_of) (N := N_row_of) (ps := p_row_of) (c := c_row_of) t (by simp) (by simp) ps_row_of ck_row_of (b_row_of) ⟨(fcons ((h_added t).mono (by decide)) (fcons ((h_are_numbers_tubes t).mono (by decide)) (fcons ((h_is_number t).mono (by decide)) fnil))), (fcons (t.cst (p := ("MOST_PLACES", (.int 25))) (by simp)) fnil), fnil, fnil, fnil, t.blt (by decide +kernel)⟩
theorem ps_is_place : PsOk "is_place" "is_place" (topS 90) p_is_place := fun _ _ _ _ _ _ us hl => match us, hl with | [_, _], _ => rfl
theorem h_is_place (t : Told T K mg base) : Has P w base (GG K mg) 2 "is_place" sp_is_place := has_top (y := "is_place") (Γ := {}) (N := N_is_place) (ps := p_is_place) (c := c_is_place) t (by simp) (by simp) ps_is_place ck_is_place (b_is_place _) ⟨fnil, fnil, fnil, fnil, fnil, t.blt (by decide +kernel)⟩
theorem ps_is_levelling : PsOk "is_levelling" "is_levelling" (topS 91) p_is_levelling := fun _ _ _ _ _ _ us hl => match us, hl with | [_, _], _ => rfl
theorem h_is_levelling (t : Told T K mg base) : Has P w base (GG K mg) 8 "is_levelling" sp_is_levelling := has_top (y := "is_levelling") (Γ := G_is_levelling) (N := N_is_levelling) (ps := p_is_levelling) (c := c_is_levelling) t (by simp) (by simp) ps_is_levelling ck_is_levelling (b_is_levelling) ⟨(fcons ((h_is_less t).mono (by decide)) (fcons ((h_taken t).mono (by decide)) (fcons ((h_is_place t).mono (by decide)) (fcons ((h_is_number t).mono (by decide)) fnil)))), (fcons (t.cst (p := ("NOUGHT", nD 0)) (by simp)) fnil), fnil, fnil, fnil, t.blt (by decide +kernel)⟩
theorem ps_check_steps : PsOk "check_steps" "check_steps" (topS 89) p_check_steps := fun _ _ _ _ _ _ us hl => match us, hl with | [_], _ => rfl
theorem h_check_steps (t : Told T K mg base) : Has P w base (GG K mg) 8 "check_steps" sp_check_steps := has_top (y := "check_steps") (Γ := (G_check_steps' "are_numbers_tubes" "MOST_STEPS_levellings")) (N := N_check_steps) (ps := p_check_steps) (c := c_check_steps) t (by simp) (by simp) ps_check_steps ck_check_steps (b_check_steps' "are_numbers_tubes" "MOST_STEPS_levellings") ⟨(fcons ((h_are_numbers_tubes t).mono (by decide)) fnil), (fcons (t.cst (p := ("MOST_STEPS_levellings", (.int 24))) (by simp)) fnil), fnil, fnil, fnil, t.blt (by decide +kernel)⟩
theorem ps_levelled : PsOk "levelled" "levelled" (topS 92) p_levelled := fun _ _ _ _ _ _ us hl => match us, hl with | [_, _], _ => rfl
theorem h_levelled (t : Told T K mg base) : Has P w base (GG K mg) 10 "levelled" sp_levelled := has_top (y := "levelled") (Γ := G_levelled) (N := N_levelled) (ps := p_levelled) (c := c_levelled) t (by simp) (by simp) ps_levelled ck_levelled (b_levelled) ⟨(fcons ((h_added t).mono (by decide)) (fcons ((h_taken t).mono (by decide)) (fcons ((h_is_levelling t).mono (by decide)) (fcons ((h_check_steps t).mono (by decide)) fnil)))), fnil, fnil, fnil, fnil, t.blt (by decide +kernel)⟩
theorem ps_Levels___init__ : PsOk "__init__" "Levels.__init__" (inClass (topS 94) 0) p_Levels___init__ := fun _ _ _ _ _ _ us hl => match us, hl with | [_, _, _], _ => rfl
theorem h_Levels___init__ (t : Told T K mg base) : HasI P w base (GG K mg) 2 .Levels "Levels" spI_Levels := has_ini (Γ := G_Levels0) (C := .Levels) (N := N_Levels___init__) (ps := p_Levels___init__) (c := c_Levels___init__) t (by simp [Cn.str]) (by simp [Cn.str]) (by simp [Cn.str]) ps_Levels___init__ ck_Levels___init__ (b_Levels_init) ⟨fnil, fnil, fnil, fnil, (fcons (t.cls (C := .Levels) (by decide) (by simp [Cn.str])) fnil), t.blt (by decide +kernel)⟩
theorem ps_Levels_give : PsOk "give" "Levels.give" (inClass (topS 94) 1) p_Levels_give := fun _ _ _ _ _ _ us hl => match us, hl with | [_, _, _, _], _ => rfl
theorem h_Levels_give (t : Told T K mg base) : HasM P w base (GG K mg) 8 .Levels "give" sp_give := has_met (Γ := G_give) (C := .Levels) (N := N_Levels_give) (ps := p_Levels_give) (c := c_Levels_give) t (by simp [Cn.str]) (by simp [Cn.str]) (by simp [Cn.str]) ps_Levels_give (by decide) ck_Levels_give (b_give) ⟨(fcons ((h_added t).mono (by decide)) (fcons ((h_taken t).mono (by decide)) fnil)), fnil, fnil, fnil, (fcons (t.cls (C := .Levels) (by decide) (by simp [Cn.str])) fnil), t.blt (by decide +kernel)⟩
theorem ps_Levels_put_right : PsOk "put_right" "Levels.put_right" (inClass (topS 94) 4) p_Levels_put_right := fun _ _ _ _ _ _ us hl => match us, hl with | [_], _ => rfl
theorem h_Levels_put_right (t : Told T K mg base) : HasM P w base (GG K mg) 10 .Levels "put_right" sp_put_right := has_met (Γ := G_put_right) (C := .Levels) (N := N_Levels_put_right) (ps := p_Levels_put_right) (c := c_Levels_put_right) t (by simp [Cn.str]) (by simp [Cn.str]) (by simp [Cn.str]) ps_Levels_put_right (by decide) ck_Levels_put_right (b_put_right) ⟨(fcons ((h_is_less t).mono (by decide)) (fcons ((h_taken t).mono (by decide)) fnil)), fnil, fnil, (fcons ((h_Levels_give t).mono (by decide)) fnil), (fcons (t.cls (C := .Levels) (by decide) (by simp [Cn.str])) fnil), t.blt (by decide +kernel)⟩
theorem ps_falling : PsOk "falling" "falling" (topS 93) p_falling := fun _ _ _ _ _ _ us hl => match us, hl with | [_], _ => rfl
theorem h_falling (t : Told T K mg base) : Has P w base (GG K mg) 4 "falling" sp_falling := has_top (y := "falling") (Γ := G_falling) (N := N_falling) (ps := p_falling) (c := c_falling) t (by simp) (by simp) ps_falling ck_falling (b_falling) ⟨(fcons ((h_is_less t).mono (by decide)) fnil), fnil, fnil, fnil, fnil, t.blt (by decide +kernel)⟩
theorem ps_Levels_next_pair : PsOk "next_pair" "Levels.next_pair" (inClass (topS 94) 2) p_Levels_next_pair := fun _ _ _ _ _ _ us hl => match us, hl with | [_, _, _], _ => rfl
theorem h_Levels_next_pair (t : Told T K mg base) : HasM P w base (GG K mg) 4 .Levels "next_pair" sp_next := has_met (Γ := G_next) (C := .Levels) (N := N_Levels_next_pair) (ps := p_Levels_next_pair) (c := c_Levels_next_pair) t (by simp [Cn.str]) (by simp [Cn.str]) (by simp [Cn.str]) ps_Levels_next_pair (by decide) ck_Levels_next_pair (b_next) ⟨(fcons ((h_is_less t).mono (by decide)) fnil), fnil, fnil, fnil, (fcons (t.cls (C := .Levels) (by decide) (by simp [Cn.str])) fnil), t.blt (by decide +kernel)⟩
theorem ps_Levels_evened : PsOk "evened" "Levels.evened" (inClass (topS 94) 3) p_Levels_evened := fun _ _ _ _ _ _ us hl => match us, hl with | [_], _ => rfl
theorem h_Levels_evened (t : Told T K mg base) : HasM P w base (GG K mg) 10 .Levels "evened" sp_evened := has_met (Γ := G_evened) (C := .Levels) (N := N_Levels_evened) (ps := p_Levels_evened) (c := c_Levels_evened) t (by simp [Cn.str]) (by simp [Cn.str]) (by simp [Cn.str]) ps_Levels_evened (by decide) ck_Levels_evened (b_evened) ⟨(fcons ((h_is_less t).mono (by decide)) (fcons ((h_taken t).mono (by decide)) (fcons ((h_falling t).mono (by decide)) fnil))), fnil, fnil, (fcons ((h_Levels_next_pair t).mono (by decide)) (fcons ((h_Levels_give t).mono (by decide)) fnil)), (fcons (t.cls (C := .Levels) (by decide) (by simp [Cn.str])) fnil), t.blt (by decide +kernel)⟩
theorem ps_between : PsOk "between" "between" (topS 95) p_between := fun _ _ _ _ _ _ us hl => match us, hl with | [_, _], _ => rfl
theorem h_between (t : Told T K mg base) : Has P w base (GG K mg) 12 "between" sp_between := has_top (y := "between") (Γ := G_between) (N := N_between) (ps := p_between) (c := c_between) t (by simp) (by simp) ps_between ck_between (b_between) ⟨(fcons ((h_check_steps t).mono (by decide)) fnil), fnil, (fcons ((h_Levels___init__ t).mono (by decide)) fnil), (fcons ((h_Levels_put_right t).mono (by decide)) (fcons ((h_Levels_evened t).mono (by decide)) fnil)), (fcons (t.cls (C := .Levels) (by decide) (by simp [Cn.str])) fnil), t.blt (by decide +kernel)⟩
theorem ps_w_led : PsOk "_law_led" "_law_led" (topS 135) p_w_led_2 := fun _ _ _ _ _ _ us hl => match us, hl with | [_, _], _ => rfl
theorem h_w_led (t : Told T K mg base) : Has P w base (GG K mg) 14 "_law_led" sp_w_right := has_top (y := "_law_led") (Γ := G_w_led_2) (N := N_w_led_2) (ps := p_w_led_2) (c := c_w_led_2) t (by simp) (by simp) ps_w_led ck_w_led_2 (b_w_led_2) ⟨(fcons ((h_levelled t).mono (by decide)) (fcons ((h_between t).mono (by decide)) fnil)), fnil, fnil, fnil, fnil, t.blt (by decide +kernel)⟩
theorem ps_w_low : PsOk "_law_low" "_law_low" (topS 125) p_w_low := fun _ _ _ _ _ _ us hl => match us, hl with | [_, _], _ => rfl
theorem h_w_low (t : Told T K mg base) : Has P w base (GG K mg) 2 "_law_low" sp_number := has_top (y := "_law_low") (Γ := {}) (N := N_w_low) (ps := p_w_low) (c := c_w_low) t (by simp) (by simp) ps_w_low ck_w_low (b_w_low _) ⟨fnil, fnil, fnil, fnil, fnil, t.blt (by decide +kernel)⟩
theorem ps_w_less_by : PsOk "_law_less_by" "_law_less_by" (topS 127) p_w_less_by := fun _ _ _ _ _ _ us hl => match us, hl with | [_, _], _ => rfl
theorem h_w_less_by (t : Told T K mg base) : Has P w base (GG K mg) 4 "_law_less_by" sp_taken := has_top (y := "_law_less_by") (Γ := G_low) (N := N_w_less_by) (ps := p_w_less_by) (c := c_w_less_by) t (by simp) (by simp) ps_w_less_by ck_w_less_by (b_w_less_by) ⟨(fcons ((h_w_low t).mono (by decide)) fnil), fnil, fnil, fnil, fnil, t.blt (by decide +kernel)⟩
theorem ps_w_more : PsOk "_law_more" "_law_more" (topS 126) p_w_more := fun _ _ _ _ _ _ us hl => match us, hl with | [_, _], _ => rfl
theorem h_w_more (t : Told T K mg base) : Has P w base (GG K mg) 4 "_law_more" sp_added := has_top (y := "_law_more") (Γ := G_low) (N := N_w_more) (ps := p_w_more) (c := c_w_more) t (by simp) (by simp) ps_w_more ck_w_more (b_w_more) ⟨(fcons ((h_w_low t).mono (by decide)) fnil), fnil, fnil, fnil, fnil, t.blt (by decide +kernel)⟩
theorem ps_w_stored_right : PsOk "_law_stored_right" "_law_stored_right" (topS 133) p_w_stored_right := fun _ _ _ _ _ _ us hl => match us, hl with | [_, _, _], _ => rfl
theorem h_w_stored_right (t : Told T K mg base) : Has P w base (GG K mg) 6 "_law_stored_right" sp_w_stored := has_top (y := "_law_stored_right") (Γ := G_w_stored_right) (N := N_w_stored_right) (ps := p_w_stored_right) (c := c_w_stored_right) t (by simp) (by simp) ps_w_stored_right ck_w_stored_right (b_w_stored_right) ⟨(fcons ((h_w_under t).mono (by decide)) (fcons ((h_w_less_by t).mono (by decide)) (fcons ((h_w_more t).mono (by decide)) fnil))), fnil, fnil, fnil, fnil, t.blt (by decide +kernel)⟩
theorem ps_w_by : PsOk "_law_by" "_law_by" (topS 128) p_w_by := fun _ _ _ _ _ _ us hl => match us, hl with | [_, _], _ => rfl
theorem h_w_by (t : Told T K mg base) : Has P w base (GG K mg) 4 "_law_by" sp_multiplied := has_top (y := "_law_by") (Γ := G_low) (N := N_w_by) (ps := p_w_by) (c := c_w_by) t (by simp) (by simp) ps_w_by ck_w_by (b_w_by) ⟨(fcons ((h_w_low t).mono (by decide)) fnil), fnil, fnil, fnil, fnil, t.blt (by decide +kernel)⟩
theorem ps_w_take : PsOk "_law_take" "_law_take" (topS 124) p_w_take := fun _ _ _ _ _ _ us hl => match us, hl with | [_, _], _ => rfl
theorem h_w_take (t : Told T K mg base) : Has P w base (GG K mg) 2 "_law_take" sp_w_take := has_top (y := "_law_take") (Γ := {}) (N := N_w_take) (ps := p_w_take) (c := c_w_take) t (by simp) (by simp) ps_w_take ck_w_take (b_w_take _) ⟨fnil, fnil, fnil, fnil, fnil, t.blt (by decide +kernel)⟩
theorem ps_w_other_plan : PsOk "_law_other_plan" "_law_other_plan" (topS 134) p_w_other_plan := fun _ _ _ _ _ _ us hl => match us, hl with | [_, _, _], _ => rfl
theorem h_w_other_plan (t : Told T K mg base) : Has P w base (GG K mg) 6 "_law_other_plan" sp_w_other := has_top (y := "_law_other_plan") (Γ := G_w_other_plan) (N := N_w_other_plan) (ps := p_w_other_plan) (c := c_w_other_plan) t (by simp) (by simp) ps_w_other_plan ck_w_other_plan (b_w_other_plan) ⟨(fcons ((h_w_less_by t).mono (by decide)) (fcons ((h_w_more t).mono (by decide)) (fcons ((h_w_under t).mono (by decide)) (fcons ((h_w_by t).mono (by decide)) (fcons ((h_w_take t).mono (by decide)) fnil))))), fnil, fnil, fnil, fnil, t.blt (by decide +kernel)⟩
theorem ps_w_number : PsOk "_law_number" "_law_number" (topS 130) p_w_number := fun _ _ _ _ _ _ us hl => match us, hl with | [_, _], _ => rfl
theorem h_w_number (t : Told T K mg base) : Has P w base (GG K mg) 4 "_law_number" sp_w_number := has_top (y := "_law_number") (Γ := G_w_number) (N := N_w_number) (ps := p_w_number) (c := c_w_number) t (by simp) (by simp) ps_w_number ck_w_number (b_w_number) ⟨(fcons ((h_w_low t).mono (by decide)) (fcons ((h_w_take t).mono (by decide)) fnil)), fnil, fnil, fnil, fnil, t.blt (by decide +kernel)⟩
theorem ps_w_measure : PsOk "_law_measure" "_law_measure" (topS 132) p_w_measure := fun _ _ _ _ _ _ us hl => match us, hl with | [_, _, _], _ => rfl
theorem h_w_measure (t : Told T K mg base) : Has P w base (GG K mg) 6 "_law_measure" sp_w_measure := has_top (y := "_law_measure") (Γ := G_w_measure) (N := N_w_measure) (ps := p_w_measure) (c := c_w_measure) t (by simp) (by simp) ps_w_measure ck_w_measure (b_w_measure) ⟨(fcons ((h_w_take t).mono (by decide)) (fcons ((h_w_number t).mono (by decide)) (fcons ((h_w_low t).mono (by decide)) fnil))), fnil, fnil, fnil, fnil, t.blt (by decide +kernel)⟩
theorem ps_w_needs : PsOk "_law_needs" "_law_needs" (topS 131) p_w_needs := fun _ _ _ _ _ _ us hl => match us, hl with | [_, _], _ => rfl
theorem h_w_needs (t : Told T K mg base) : Has P w base (GG K mg) 4 "_law_needs" sp_w_needs := has_top (y := "_law_needs") (Γ := G_w_needs) (N := N_w_needs) (ps := p_w_needs) (c := c_w_needs) t (by simp) (by simp) ps_w_needs ck_w_needs (b_w_needs) ⟨(fcons ((h_w_take t).mono (by decide)) (fcons ((h_w_low t).mono (by decide)) fnil)), fnil, fnil, fnil, fnil, t.blt (by decide +kernel)⟩
theorem ps_w_right : PsOk "_law_right" "_law_right" (topS 136) p_w_right_k96 := fun _ _ _ _ _ _ us hl => match us, hl with | [_, _], _ => rfl
theorem h_w_right (t : Told T K mg base) : Has P w base (GG K mg) 22 "_law_right" sp_w_right_k96 := has_top (y := "_law_right") (Γ := G_w_right_k96) (N := N_w_right_k96) (ps := p_w_right_k96) (c := c_w_right_k96) t (by simp) (by simp) ps_w_right ck_w_right_k96 (b_w_right_k96) ⟨(fcons ((h_holds t).mono (by decide)) (fcons ((h_paper_store t).mono (by decide)) (fcons ((h_w_under t).mono (by decide)) (fcons ((h_worth t).mono (by decide)) (fcons ((h_row_of t).mono (by decide)) (fcons ((h_w_led t).mono (by decide)) (fcons ((h_w_stored_right t).mono (by decide)) (fcons ((h_w_other_plan t).mono (by decide)) (fcons ((h_w_measure t).mono (by decide)) (fcons ((h_steps t).mono (by decide)) (fcons ((h_cord t).mono (by decide)) (fcons ((h_store_tube t).mono (by decide)) (fcons ((h_bought t).mono (by decide)) (fcons ((h_w_more t).mono (by decide)) (fcons ((h_w_low t).mono (by decide)) (fcons ((h_w_take t).mono (by decide)) (fcons ((h_w_needs t).mono (by decide)) fnil))))))))))))))))), fnil, fnil, fnil, fnil, t.blt (by decide +kernel)⟩
theorem ps_w_mixed : PsOk "_law_mixed" "_law_mixed" (topS 122) p_w_mixed_2 := fun _ _ _ _ _ _ us hl => match us, hl with | [_], _ => rfl
theorem h_w_mixed (t : Told T K mg base) : Has P w base (GG K mg) 2 "_law_mixed" sp_w_mixed := has_top (y := "_law_mixed") (Γ := {}) (N := N_w_mixed_2) (ps := p_w_mixed_2) (c := c_w_mixed_2) t (by simp) (by simp) ps_w_mixed ck_w_mixed_2 (b_w_mixed_2 _) ⟨fnil, fnil, fnil, fnil, fnil, t.blt (by decide +kernel)⟩
theorem ps_w_pack : PsOk "_law_pack" "_law_pack" (topS 123) p_w_pack_2 := fun _ _ _ _ _ _ us hl => match us, hl with | [_, _], _ => rfl
theorem h_w_pack (t : Told T K mg base) : Has P w base (GG K mg) 4 "_law_pack" sp_w_pack := has_top (y := "_law_pack") (Γ := G_w_pack) (N := N_w_pack_2) (ps := p_w_pack_2) (c := c_w_pack_2) t (by simp) (by simp) ps_w_pack ck_w_pack_2 (b_w_pack_2) ⟨(fcons ((h_w_mixed t).mono (by decide)) fnil), fnil, fnil, fnil, fnil, t.blt (by decide +kernel)⟩
theorem ps_law : PsOk "law" "law" (topS 137) p_law_k96 := fun _ _ _ _ _ _ us hl => match us, hl with | [_], _ => rfl
theorem W_law (t : Told T K mg base) : Wo G_law_k96 (GG K mg) P w base 22 := ⟨(fcons ((h_w_right t).mono (by decide)) (fcons ((h_w_pack t).mono (by decide)) fnil)), fnil, fnil, fnil, fnil, t.blt (by decide +kernel)⟩
end
theorem law_here {K : PySem.W.Frag} {mg : Str → Option Value} {base : Heap} {w : World} (t : Told T K mg base) : ∃ fd : FuncData, (∀ (s : Shared) (u : Value), BindsTo s fd ⟨[u], []⟩ [("_law_script", u)]) ∧ ∀ base' : Heap, K.In base' → base'.Ns mainGlobals mg → FnOk PySem.Challenge.rw_levelcord_k96_whole_stores_by_rooms.prog w K mg base' CX0 24 (ga K "law") fd ["_law_script"] (spOf (GG K mg) sp_law) :=
  law_fd (Γ := G_law_k96) (N := N_law_k96) (c := c_law_k96) (st := topS 137) (lv := 22) t (by simp) ps_law ck_law_k96 b_law_k96 fun base' t' => W_law t' 
end DL
open PySem PySem.W PySem.Calls PyProof.Rows
theorem PySem.Challenge.cw_levelcord_k96_whole_stores_by_rooms_holds : PySem.Challenge.rw_levelcord_k96_whole_stores_by_rooms.Holds := by
  w_on; o_law
  refine HandSHeadRun.head_any (r := DL.R) (q := DL.qv) (H := DL.hk) (ob := DL.ob) (M := 40000) (loose := DL.loose) (d := HandSHeadRun.topDef DL.R.prog 137) (kwd := []) DL.ob_eq
    (by kernel_rfl) (fun s => by kernel_rfl) DL.run (by kernel_rfl) (by kernel_rfl) (by kernel_rfl) (by rfl) (by first | assumption | decide +kernel) (by decide +kernel) ⟨rfl, rfl, rfl, rfl, rfl, by decide +kernel⟩ ?hw ?hc
  case hw => w_witness2
  case hc => exact DL.walk_end (T := DL.T) (as := DL.adr) (x := "_law_script") rfl (by decide) ⟨rfl, by decide, by decide⟩ (by kernel_rfl) (fun w mg K base t => DL.law_here t) (by simp)
